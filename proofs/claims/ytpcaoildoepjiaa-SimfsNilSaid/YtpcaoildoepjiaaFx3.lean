/- A proof layer over heaps, and contracts of the printed functions; no statement of the seat is proved here. -/
import Derived.Test.YtpcaoildoepjiaaFx2
import Derived.Shelf.Sort.Plain
import Derived.Test.YtpcaoildoepjiaaProg
import Derived.Sort.Walk0
import Derived.Shelf.Slices.In.SortNone2
set_option linter.unusedVariables false
set_option linter.unusedSimpArgs false
set_option linter.unusedSectionVars false

namespace Go.Proofs
open Go Go.Fx Go.Disk
set_option linter.unusedVariables false
set_option maxRecDepth 20000

theorem end_ok {H : Heap} {C : Col} {k : Nat} {x : FsX} {D : Disk} {u : Nat} {K : Value → Heap → Prop} (hk : k ≠ 0) (h : FsAt H C k x D u) (ha : D.acts < 2 ^ 40) (hf : D.fuse < 2 ^ 63) (hd : D.dead = false)
    (hK : ∀ H', FsAt H' C k x D.blow u → Ev (at1 (k, 0)) H C H' C → K (.int .i64 (if D.fuse = 1 then 13 else 0)) H') : Fn 80 [.pointer (some ⟨x.p, 0, none⟩)] H K := by
  refine F80_ok _ ?_
  unfold F80
  refine (fails_ok hk h ha hf hd fun H' h1 h2 => ?_)
  simp only [cellH_mk, cellO_some, add_mk, size_upd, upd_upd, one_int, one_bool, one_string, one_pointer, one_slice, one_map, one_func, st1_some, stN_nil, stN_cons, StV_mk, StO_some, Ld_some, RtI_mk, RtB_mk, RtS_mk, RtP_mk, RtL_mk, RtM_mk, RtA_mk, RtT_mk, NilC_some, New_eq, At_eq, Ck_true, Rt0_mk, BrB_true, BrB_false, Nat.zero_add, List.length_cons, List.length_nil, List.getElem?_cons_zero, List.getElem?_cons_succ, List.set_cons_zero, List.set_cons_succ, List.getD_cons_zero, List.getD_cons_succ, Option.isNone_some, Option.isNone_none, Go.Disk.fsO, Go.Disk.fileO, Bool.false_eq_true, eq_self, Nat.reduceAdd, Nat.reduceSub, Nat.reduceMul, Nat.reduceLT, Nat.reduceLeDiff, Nat.reduceEqDiff, Int.reduceNeg, Int.reduceEq, Int.reduceNe, Int.reduceBEq, Int.reduceBNe, Int.reduceLT, Int.reduceLE, Int.reduceGT, Int.reduceAdd, reduceIte, Bool.not_true, Bool.not_false, decide_true, decide_false, ne_eq, not_false_eq_true, not_true_eq_false]
  have := hK H' h1 h2
  refine BrB_i (fun e => ?_) (fun e => ?_)
  · rw [if_pos (by simpa using e)] at this; exact this
  · rw [if_neg (by simpa using e)] at this; exact this

theorem get_ok {H : Heap} {C : Col} {k : Nat} {x : FsX} {D : Disk} {u : Nat} {name : Name} {K : Value → Heap → Prop} (h : FsAt H C k x D u) (hD : DirOk D.files.length D.seen)
    (h1 : D.dead = true → K (.tuple ⟨[.pointer none, .int .i64 13]⟩) H)
    (h2 : D.dead = false → dget name D.seen = none → K (.tuple ⟨[.pointer none, .int .i64 7]⟩) H)
    (h3 : ∀ n fb f, D.dead = false → dget name D.seen = some n → x.fbs[n]? = some fb → D.files[n]? = some f → K (.tuple ⟨[.pointer (some ⟨fb, 0, none⟩), .int .i64 0]⟩) H) :
    Fn 49 [.pointer (some ⟨x.p, 0, none⟩), .string name] H K := by
  refine F49_ok _ _ ?_
  unfold F49
  have hp := h.hp
  refine ready_ok hp rfl ?_
  unfold FsX.r at hp ⊢
  obtain ⟨hcv, ov, hv, kvs, hmv, hpv⟩ := h.seen
  obtain ⟨hcf, ⟨of, kfs, hf, hmf, hpf⟩, hlen, hfs⟩ := h.files
  cases hd : D.dead with
  | true =>
    simp only [cellH_mk, cellO_some, add_mk, size_upd, upd_upd, one_int, one_bool, one_string, one_pointer, one_slice, one_map, one_func, st1_some, stN_nil, stN_cons, StV_mk, StO_some, Ld_some, RtI_mk, RtB_mk, RtS_mk, RtP_mk, RtL_mk, RtM_mk, RtA_mk, RtT_mk, NilC_some, New_eq, At_eq, Ck_true, Rt0_mk, BrB_true, BrB_false, Nat.zero_add, List.length_cons, List.length_nil, List.getElem?_cons_zero, List.getElem?_cons_succ, List.set_cons_zero, List.set_cons_succ, List.getD_cons_zero, List.getD_cons_succ, Option.isNone_some, Option.isNone_none, Go.Disk.fsO, Go.Disk.fileO, Bool.false_eq_true, eq_self, Nat.reduceAdd, Nat.reduceSub, Nat.reduceMul, Nat.reduceLT, Nat.reduceLeDiff, Nat.reduceEqDiff, Int.reduceNeg, Int.reduceEq, Int.reduceNe, Int.reduceBEq, Int.reduceBNe, Int.reduceLT, Int.reduceLE, Int.reduceGT, Int.reduceAdd, reduceIte, Bool.not_true, Bool.not_false, decide_true, decide_false, ne_eq, not_false_eq_true, not_true_eq_false]
    exact h1 hd
  | false =>
    simp only [cellH_mk, cellO_some, add_mk, size_upd, upd_upd, one_int, one_bool, one_string, one_pointer, one_slice, one_map, one_func, st1_some, stN_nil, stN_cons, StV_mk, StO_some, Ld_some, RtI_mk, RtB_mk, RtS_mk, RtP_mk, RtL_mk, RtM_mk, RtA_mk, RtT_mk, NilC_some, New_eq, At_eq, Ck_true, Rt0_mk, BrB_true, BrB_false, Nat.zero_add, List.length_cons, List.length_nil, List.getElem?_cons_zero, List.getElem?_cons_succ, List.set_cons_zero, List.set_cons_succ, List.getD_cons_zero, List.getD_cons_succ, Option.isNone_some, Option.isNone_none, Go.Disk.fsO, Go.Disk.fileO, Bool.false_eq_true, eq_self, Nat.reduceAdd, Nat.reduceSub, Nat.reduceMul, Nat.reduceLT, Nat.reduceLeDiff, Nat.reduceEqDiff, Int.reduceNeg, Int.reduceEq, Int.reduceNe, Int.reduceBEq, Int.reduceBNe, Int.reduceLT, Int.reduceLE, Int.reduceGT, Int.reduceAdd, reduceIte, Bool.not_true, Bool.not_false, decide_true, decide_false, ne_eq, not_false_eq_true, not_true_eq_false, hp]
    refine ⟨_, lookup_rdT keyS und70 und9 tyf3 hv hmv name true, ?_⟩
    rw [lk_perm hpv (MapIs.nodup hmv), lk_dirK]
    cases hg : dget name D.seen with
    | none =>
      simp only [Option.map_none, Option.getD_none, Option.isSome_none]
      simp only [cellH_mk, cellO_some, add_mk, size_upd, upd_upd, one_int, one_bool, one_string, one_pointer, one_slice, one_map, one_func, st1_some, stN_nil, stN_cons, StV_mk, StO_some, Ld_some, RtI_mk, RtB_mk, RtS_mk, RtP_mk, RtL_mk, RtM_mk, RtA_mk, RtT_mk, NilC_some, New_eq, At_eq, Ck_true, Rt0_mk, BrB_true, BrB_false, Nat.zero_add, List.length_cons, List.length_nil, List.getElem?_cons_zero, List.getElem?_cons_succ, List.set_cons_zero, List.set_cons_succ, List.getD_cons_zero, List.getD_cons_succ, Option.isNone_some, Option.isNone_none, Go.Disk.fsO, Go.Disk.fileO, Bool.false_eq_true, eq_self, Nat.reduceAdd, Nat.reduceSub, Nat.reduceMul, Nat.reduceLT, Nat.reduceLeDiff, Nat.reduceEqDiff, Int.reduceNeg, Int.reduceEq, Int.reduceNe, Int.reduceBEq, Int.reduceBNe, Int.reduceLT, Int.reduceLE, Int.reduceGT, Int.reduceAdd, reduceIte, Bool.not_true, Bool.not_false, decide_true, decide_false, ne_eq, not_false_eq_true, not_true_eq_false]
      exact h2 hd hg
    | some n =>
      have hn := hD.2.2 _ (dget_mem hg)
      have hb : x.fbs[n]? = some x.fbs[n] := List.getElem?_eq_getElem (by simpa [hlen] using hn)
      simp only [Option.map_some, Option.getD_some, Option.isSome_some]
      simp only [cellH_mk, cellO_some, add_mk, size_upd, upd_upd, one_int, one_bool, one_string, one_pointer, one_slice, one_map, one_func, st1_some, stN_nil, stN_cons, StV_mk, StO_some, Ld_some, RtI_mk, RtB_mk, RtS_mk, RtP_mk, RtL_mk, RtM_mk, RtA_mk, RtT_mk, NilC_some, New_eq, At_eq, Ck_true, Rt0_mk, BrB_true, BrB_false, Nat.zero_add, List.length_cons, List.length_nil, List.getElem?_cons_zero, List.getElem?_cons_succ, List.set_cons_zero, List.set_cons_succ, List.getD_cons_zero, List.getD_cons_succ, Option.isNone_some, Option.isNone_none, Go.Disk.fsO, Go.Disk.fileO, Bool.false_eq_true, eq_self, Nat.reduceAdd, Nat.reduceSub, Nat.reduceMul, Nat.reduceLT, Nat.reduceLeDiff, Nat.reduceEqDiff, Int.reduceNeg, Int.reduceEq, Int.reduceNe, Int.reduceBEq, Int.reduceBNe, Int.reduceLT, Int.reduceLE, Int.reduceGT, Int.reduceAdd, reduceIte, Bool.not_true, Bool.not_false, decide_true, decide_false, ne_eq, not_false_eq_true, not_true_eq_false, hp]
      refine ⟨_, lookup_rdT keyInt und69 und3 tyf79 hf hmf ((n : Int) + 1) false, ?_⟩
      rw [files_lk hmf hpf hb]
      simp only [Option.getD_some]
      simp only [cellH_mk, cellO_some, add_mk, size_upd, upd_upd, one_int, one_bool, one_string, one_pointer, one_slice, one_map, one_func, st1_some, stN_nil, stN_cons, StV_mk, StO_some, Ld_some, RtI_mk, RtB_mk, RtS_mk, RtP_mk, RtL_mk, RtM_mk, RtA_mk, RtT_mk, NilC_some, New_eq, At_eq, Ck_true, Rt0_mk, BrB_true, BrB_false, Nat.zero_add, List.length_cons, List.length_nil, List.getElem?_cons_zero, List.getElem?_cons_succ, List.set_cons_zero, List.set_cons_succ, List.getD_cons_zero, List.getD_cons_succ, Option.isNone_some, Option.isNone_none, Go.Disk.fsO, Go.Disk.fileO, Bool.false_eq_true, eq_self, Nat.reduceAdd, Nat.reduceSub, Nat.reduceMul, Nat.reduceLT, Nat.reduceLeDiff, Nat.reduceEqDiff, Int.reduceNeg, Int.reduceEq, Int.reduceNe, Int.reduceBEq, Int.reduceBNe, Int.reduceLT, Int.reduceLE, Int.reduceGT, Int.reduceAdd, reduceIte, Bool.not_true, Bool.not_false, decide_true, decide_false, ne_eq, not_false_eq_true, not_true_eq_false]
      exact h3 n _ _ hd hg hb (List.getElem?_eq_getElem hn)
end Go.Proofs

namespace Go.Proofs
open Go Go.Fx Go.Disk
set_option linter.unusedVariables false
set_option maxRecDepth 20000

def flV (fs : List FileA) (v : Value) : Nat := match v with | .int _ n => flen fs (n - 1).toNat | _ => 0
theorem flV_dirK (fs : List FileA) (d : Dir) : ((dirK d).map fun p => flV fs p.2).sum = usedOf fs d := by
  unfold dirK usedOf
  rw [List.map_map]
  congr 2
  funext p
  simp [flV]

/-- What a map of a directory's pairs holds. -/
theorem dirK_val {d : Dir} {n : Nat} (h : ∀ p ∈ d, p.2 < n) {k : Name} {v : Value} (hm : (k, v) ∈ dirK d) : ∃ i, i < n ∧ v = .int .i64 ((i : Int) + 1) ∧ (k, i) ∈ d := by
  unfold dirK at hm
  obtain ⟨p, hp, he⟩ := List.mem_map.1 hm
  cases he
  exact ⟨p.2, h p hp, rfl, hp⟩

theorem used_le {D : Disk} (hd : ∀ n, flen D.files n ≤ 2 ^ 20) (hl : D.seen.length ≤ 64) : D.used ≤ 2 ^ 26 := by
  have := sum_le (l := D.seen.map fun p => flen D.files p.2) (M := 2 ^ 20) (fun x hx => by
    obtain ⟨p, _, rfl⟩ := List.mem_map.1 hx
    exact hd _)
  rw [List.length_map] at this
  have h2 : D.seen.length * 2 ^ 20 ≤ 64 * 2 ^ 20 := Nat.mul_le_mul_right _ hl
  unfold Disk.used usedOf
  omega

theorem count_ok {H : Heap} {C : Col} {k : Nat} {x : FsX} {D : Disk} {u : Nat} {K : Value → Heap → Prop} (hk : k ≠ 0) (h : FsAt H C k x D u) (hD : DirOk D.files.length D.seen) (hl : ∀ n, flen D.files n ≤ 2 ^ 20)
    (hK : ∀ H' C', FsAt H' C' k x D D.used → Ev (own k) H C H' C' → K (.tuple ⟨[]⟩) H') : Fn 57 [.pointer (some ⟨x.p, 0, none⟩)] H K := by
  refine F57_ok _ ?_
  unfold F57
  have hp := h.hp
  have hlt := lt_of_get hp
  obtain ⟨g1, g2⟩ := h.setP (D' := D) (u' := 0) hk rfl rfl rfl rfl
  have hp1 := g1.hp
  rw [fsX] at hp g1 g2 hp1
  simp only [show ((0 : Nat) : Int) = 0 from rfl] at g1 g2 hp1
  simp only [cellH_mk, cellO_some, add_mk, size_upd, upd_upd, one_int, one_bool, one_string, one_pointer, one_slice, one_map, one_func, st1_some, stN_nil, stN_cons, StV_mk, StO_some, Ld_some, RtI_mk, RtB_mk, RtS_mk, RtP_mk, RtL_mk, RtM_mk, RtA_mk, RtT_mk, NilC_some, New_eq, At_eq, Ck_true, Rt0_mk, BrB_true, BrB_false, Nat.zero_add, List.length_cons, List.length_nil, List.getElem?_cons_zero, List.getElem?_cons_succ, List.set_cons_zero, List.set_cons_succ, List.getD_cons_zero, List.getD_cons_succ, Option.isNone_some, Option.isNone_none, Go.Disk.fsO, Go.Disk.fileO, Bool.false_eq_true, eq_self, Nat.reduceAdd, Nat.reduceSub, Nat.reduceMul, Nat.reduceLT, Nat.reduceLeDiff, Nat.reduceEqDiff, Int.reduceNeg, Int.reduceEq, Int.reduceNe, Int.reduceBEq, Int.reduceBNe, Int.reduceLT, Int.reduceLE, Int.reduceGT, Int.reduceAdd, reduceIte, Bool.not_true, Bool.not_false, decide_true, decide_false, ne_eq, not_false_eq_true, not_true_eq_false, hp, get_upd_self, hlt]
  generalize hH1 : (upd H x.p _) = H1 at *
  have g1s := g1.seen

  clear hH1
  have g2s : ∃ o, H1[x.mv]? = some o ∧ DirMap o D.seen := g1s.2
  obtain ⟨ov, g3s⟩ := g2s
  have hv := g3s.1
  have hmv := g3s.2
  obtain ⟨kvs, hmv, hpv⟩ := hmv
  have hus := used_le hl hD.2.1
  refine range_wp und70 hv hmv fun o' hit => ?_
  refine ⟨_, rfl, ?_⟩
  have hev1 : Ev (at1 (k, 4)) H1 C (H1.push o') (setC C H1.size (k, 4)) := ev_push _ _ _ _ _
  have hkv : (kvs.map fun p => flV D.files p.2).sum = D.used := by
    have := (hpv.map fun p => flV D.files p.2).sum_nat
    rw [this, flV_dirK]
    rfl
  refine ⟨fun H' => ∃ todo u', IterAt Value.string H' H1.size x.mv kvs todo ∧ FsAt H' (setC C H1.size (k, 4)) k x D u' ∧ Ev (own k) H C H' (setC C H1.size (k, 4)) ∧ u' + (todo.map fun p => flV D.files p.2).sum = D.used,
    fun H' => iterLeft H' H1.size, ⟨kvs, 0, hit, g1.ev hev1 (at1_no0 hk) fun j hj => at1_ne hj, (g2.mono fun _ => own_of_at1).trans (hev1.mono fun _ => own_of_at1), by rw [Nat.zero_add]; exact hkv⟩, ?_⟩
  rintro fr H' ⟨todo, u', hI, hF, hE, hU⟩
  simp only [cellH_mk, cellO_some, add_mk, size_upd, upd_upd, one_int, one_bool, one_string, one_pointer, one_slice, one_map, one_func, st1_some, stN_nil, stN_cons, StV_mk, StO_some, Ld_some, RtI_mk, RtB_mk, RtS_mk, RtP_mk, RtL_mk, RtM_mk, RtA_mk, RtT_mk, NilC_some, New_eq, At_eq, Ck_true, Rt0_mk, BrB_true, BrB_false, Nat.zero_add, List.length_cons, List.length_nil, List.getElem?_cons_zero, List.getElem?_cons_succ, List.set_cons_zero, List.set_cons_succ, List.getD_cons_zero, List.getD_cons_succ, Option.isNone_some, Option.isNone_none, Go.Disk.fsO, Go.Disk.fileO, Bool.false_eq_true, eq_self, Nat.reduceAdd, Nat.reduceSub, Nat.reduceMul, Nat.reduceLT, Nat.reduceLeDiff, Nat.reduceEqDiff, Int.reduceNeg, Int.reduceEq, Int.reduceNe, Int.reduceBEq, Int.reduceBNe, Int.reduceLT, Int.reduceLE, Int.reduceGT, Int.reduceAdd, reduceIte, Bool.not_true, Bool.not_false, decide_true, decide_false, ne_eq, not_false_eq_true, not_true_eq_false]
  refine next_wp hI (fun ht => ?_) fun nm v l1 l2 o2 ht hI2 hent => ?_
  · subst ht
    simp only [List.map_nil, List.sum_nil, Nat.add_zero] at hU
    subst hU
    exact hK _ _ hF hE
  · have hsz : H1.size < H'.size := lt_of_get hI.has.choose_spec
    have hev2 : Ev (at1 (k, 4)) H' (setC C H1.size (k, 4)) (upd H' H1.size o2) (setC C H1.size (k, 4)) := ev_upd (setC_self _ _ _) _
    have hF2 := hF.ev hev2 (at1_no0 hk) fun j hj => at1_ne hj
    have hE2 := hE.trans (hev2.mono fun _ => own_of_at1)
    have hsub : (nm, v) ∈ kvs := by
      obtain ⟨_, _, _, _, _, _, _, hs⟩ := hI
      exact hs.subset (by rw [ht]; simp)
    obtain ⟨i, hi, rfl, hmem⟩ := dirK_val hD.2.2 (hpv.mem_iff.1 hsub)
    generalize hH2 : upd H' H1.size o2 = H2 at *
    have hne := hI.ne
    refine ⟨_, hent _ (by rw [← hH2]; exact get_upd_of hI.has.choose_spec) (by rw [← hH2]; exact get_upd_ne _ hne), ?_⟩
    obtain ⟨hcf, ⟨of, kfs, hf, hmf, hpf⟩, hlen, hfs⟩ := hF2.files
    have hp2 := hF2.hp
    rw [fsX] at hp2
    simp only [cellH_mk, cellO_some, add_mk, size_upd, upd_upd, one_int, one_bool, one_string, one_pointer, one_slice, one_map, one_func, st1_some, stN_nil, stN_cons, StV_mk, StO_some, Ld_some, RtI_mk, RtB_mk, RtS_mk, RtP_mk, RtL_mk, RtM_mk, RtA_mk, RtT_mk, NilC_some, New_eq, At_eq, Ck_true, Rt0_mk, BrB_true, BrB_false, Nat.zero_add, List.length_cons, List.length_nil, List.getElem?_cons_zero, List.getElem?_cons_succ, List.set_cons_zero, List.set_cons_succ, List.getD_cons_zero, List.getD_cons_succ, Option.isNone_some, Option.isNone_none, Go.Disk.fsO, Go.Disk.fileO, Bool.false_eq_true, eq_self, Nat.reduceAdd, Nat.reduceSub, Nat.reduceMul, Nat.reduceLT, Nat.reduceLeDiff, Nat.reduceEqDiff, Int.reduceNeg, Int.reduceEq, Int.reduceNe, Int.reduceBEq, Int.reduceBNe, Int.reduceLT, Int.reduceLE, Int.reduceGT, Int.reduceAdd, reduceIte, Bool.not_true, Bool.not_false, decide_true, decide_false, ne_eq, not_false_eq_true, not_true_eq_false, hp2]
    have hb : x.fbs[i]? = some x.fbs[i] := List.getElem?_eq_getElem (by omega)
    refine ⟨_, lookup_rdT keyInt und69 und3 tyf79 hf hmf ((i : Int) + 1) false, ?_⟩
    rw [files_lk hmf hpf hb]
    simp only [Option.getD_some]
    have hfi : D.files[i]? = some D.files[i] := List.getElem?_eq_getElem hi
    obtain ⟨q1, s, n, r, cells, q2, q3, q4, q5, q6, q7⟩ := hfs i _ _ hb hfi
    have hnl : n.2.1 = flen D.files i := by
      unfold flen
      rw [hfi]
      have := q4.1
      simpa [byts] using this.symm
    simp only [cellH_mk, cellO_some, add_mk, size_upd, upd_upd, one_int, one_bool, one_string, one_pointer, one_slice, one_map, one_func, st1_some, stN_nil, stN_cons, StV_mk, StO_some, Ld_some, RtI_mk, RtB_mk, RtS_mk, RtP_mk, RtL_mk, RtM_mk, RtA_mk, RtT_mk, NilC_some, New_eq, At_eq, Ck_true, Rt0_mk, BrB_true, BrB_false, Nat.zero_add, List.length_cons, List.length_nil, List.getElem?_cons_zero, List.getElem?_cons_succ, List.set_cons_zero, List.set_cons_succ, List.getD_cons_zero, List.getD_cons_succ, Option.isNone_some, Option.isNone_none, Go.Disk.fsO, Go.Disk.fileO, Bool.false_eq_true, eq_self, Nat.reduceAdd, Nat.reduceSub, Nat.reduceMul, Nat.reduceLT, Nat.reduceLeDiff, Nat.reduceEqDiff, Int.reduceNeg, Int.reduceEq, Int.reduceNe, Int.reduceBEq, Int.reduceBNe, Int.reduceLT, Int.reduceLE, Int.reduceGT, Int.reduceAdd, reduceIte, Bool.not_true, Bool.not_false, decide_true, decide_false, ne_eq, not_false_eq_true, not_true_eq_false, q2, hp2]
    have hsum : u' + flen D.files i + ((l1 ++ l2).map fun p => flV D.files p.2).sum = D.used := by
      rw [← hU, ht]
      simp only [List.map_append, List.map_cons, List.sum_append, List.sum_cons]
      have : flV D.files (.int .i64 ((i : Int) + 1)) = flen D.files i := by simp [flV]
      rw [this]; omega
    have hw : IntKind.wrap .i64 ((u' : Int) + ((n.2.1 : Nat) : Int)) = ((u' + flen D.files i : Nat) : Int) := by
      rw [hnl, w64 (by omega) (by omega)]; omega
    obtain ⟨r1, r2⟩ := hF2.setP (D' := D) (u' := u' + flen D.files i) hk rfl rfl rfl rfl
    rw [hw]
    rw [fsX] at r1 r2
    have hI3 : IterAt Value.string (upd H2 x.p (fsO (x.r D (u' + flen D.files i)))) H1.size x.mv kvs (l1 ++ l2) := by
      refine hI2.keep (get_upd_ne _ ?_) (get_upd_ne _ ?_)
      · intro e
        have h2 : H2[H1.size]? = some o2 := by rw [← hH2]; exact get_upd_of hI.has.choose_spec
        obtain ⟨es, clk, seen, _, h3, _⟩ := hI2
        rw [← e, hp2] at h3
        cases h3
      · intro e
        obtain ⟨es, clk, seen, h3, _⟩ := hI2
        rw [← e, hp2] at h3
        cases h3
    rw [fsX] at hI3
    refine ⟨⟨_, _, hI3, r1, hE2.trans (r2.mono fun _ => own_of_at1), hsum⟩, ?_⟩
    have hm1 := hI3.left
    rw [hI.left]
    show iterLeft _ _ < _
    rw [hm1, ht]
    simp
end Go.Proofs

namespace Go.Proofs
open Go Go.Fx Go.Disk
set_option linter.unusedVariables false
set_option maxRecDepth 20000

theorem moveDo_ok {H : Heap} {C : Col} {lab : Lab} {mm : Nat} {d : Dir} {n : Nat} {m : Mv} {K : Value → Heap → Prop} (h : DirAt H C lab mm d) (hd : DSort d) (hm : MvOk n m d)
    (hK : ∀ H' C', DirAt H' C' lab mm (m.app d) → Ev (at1 lab) H C H' C' → K (.tuple ⟨[]⟩) H') : Fn 54 [.agg ⟨mvCells m⟩, .map (some mm)] H K := by
  unfold mvCells
  refine F54_ok _ _ _ _ _ ?_
  unfold F54
  obtain ⟨hc, o, ho, kvs, hmo, hp⟩ := h
  have hlt := lt_of_get ho
  simp only [cellH_mk, cellO_some, add_mk, size_upd, upd_upd, one_int, one_bool, one_string, one_pointer, one_slice, one_map, one_func, st1_some, stN_nil, stN_cons, StV_mk, StO_some, Ld_some, RtI_mk, RtB_mk, RtS_mk, RtP_mk, RtL_mk, RtM_mk, RtA_mk, RtT_mk, NilC_some, New_eq, At_eq, Ck_true, Rt0_mk, BrB_true, BrB_false, Nat.zero_add, List.length_cons, List.length_nil, List.getElem?_cons_zero, List.getElem?_cons_succ, List.set_cons_zero, List.set_cons_succ, List.getD_cons_zero, List.getD_cons_succ, Option.isNone_some, Option.isNone_none, Go.Disk.fsO, Go.Disk.fileO, Bool.false_eq_true, eq_self, Nat.reduceAdd, Nat.reduceSub, Nat.reduceMul, Nat.reduceLT, Nat.reduceLeDiff, Nat.reduceEqDiff, Int.reduceNeg, Int.reduceEq, Int.reduceNe, Int.reduceBEq, Int.reduceBNe, Int.reduceLT, Int.reduceLE, Int.reduceGT, Int.reduceAdd, reduceIte, Bool.not_true, Bool.not_false, decide_true, decide_false, ne_eq, not_false_eq_true, not_true_eq_false, NewN_eq, get_push_self]
  have hev1 := ev_push (at1 lab) H C (.cells ⟨[.int .i64 (m.kind : Int), .string m.src, .string m.dst, .int .i64 (if m.kind = 0 then (m.file : Int) + 1 else 0)]⟩ 85) (0, 0)
  have ho1 : (H.push (.cells ⟨[.int .i64 (m.kind : Int), .string m.src, .string m.dst, .int .i64 (if m.kind = 0 then (m.file : Int) + 1 else 0)]⟩ 85))[mm]? = some o := by rw [get_push_lt _ hlt]; exact ho
  have hc1 : setC C H.size (0, 0) mm = lab := by rw [setC_ne (by omega)]; exact hc
  have hnd := MapIs.nodup hmo
  refine BrB_i (fun e => ?_) (fun e => ?_)
  · have e0 : m.kind = 0 := by have := eq_of_beq e; omega
    simp only [cellH_mk, cellO_some, add_mk, size_upd, upd_upd, one_int, one_bool, one_string, one_pointer, one_slice, one_map, one_func, st1_some, stN_nil, stN_cons, StV_mk, StO_some, Ld_some, RtI_mk, RtB_mk, RtS_mk, RtP_mk, RtL_mk, RtM_mk, RtA_mk, RtT_mk, NilC_some, New_eq, At_eq, Ck_true, Rt0_mk, BrB_true, BrB_false, Nat.zero_add, List.length_cons, List.length_nil, List.getElem?_cons_zero, List.getElem?_cons_succ, List.set_cons_zero, List.set_cons_succ, List.getD_cons_zero, List.getD_cons_succ, Option.isNone_some, Option.isNone_none, Go.Disk.fsO, Go.Disk.fileO, Bool.false_eq_true, eq_self, Nat.reduceAdd, Nat.reduceSub, Nat.reduceMul, Nat.reduceLT, Nat.reduceLeDiff, Nat.reduceEqDiff, Int.reduceNeg, Int.reduceEq, Int.reduceNe, Int.reduceBEq, Int.reduceBNe, Int.reduceLT, Int.reduceLE, Int.reduceGT, Int.reduceAdd, reduceIte, Bool.not_true, Bool.not_false, decide_true, decide_false, ne_eq, not_false_eq_true, not_true_eq_false, get_push_self]
    refine wpH_mapUpdate keyS und70 und9 ho1 hmo m.dst _ fun o' ho' => ?_
    rw [if_pos e0] at ho'
    refine hK _ _ ⟨hc1, o', get_upd_of ho1, ?_⟩ (hev1.trans (ev_upd hc1 _))
    unfold Mv.app
    rw [if_pos e0]
    exact DirMap.put hd hnd hp _ _ ho'
  · have e0 : m.kind ≠ 0 := by intro h; rw [h] at e; cases e
    refine BrB_i (fun e => ?_) (fun e => ?_)
    · have e1 : m.kind = 1 := by have := eq_of_beq e; omega
      simp only [cellH_mk, cellO_some, add_mk, size_upd, upd_upd, one_int, one_bool, one_string, one_pointer, one_slice, one_map, one_func, st1_some, stN_nil, stN_cons, StV_mk, StO_some, Ld_some, RtI_mk, RtB_mk, RtS_mk, RtP_mk, RtL_mk, RtM_mk, RtA_mk, RtT_mk, NilC_some, New_eq, At_eq, Ck_true, Rt0_mk, BrB_true, BrB_false, Nat.zero_add, List.length_cons, List.length_nil, List.getElem?_cons_zero, List.getElem?_cons_succ, List.set_cons_zero, List.set_cons_succ, List.getD_cons_zero, List.getD_cons_succ, Option.isNone_some, Option.isNone_none, Go.Disk.fsO, Go.Disk.fileO, Bool.false_eq_true, eq_self, Nat.reduceAdd, Nat.reduceSub, Nat.reduceMul, Nat.reduceLT, Nat.reduceLeDiff, Nat.reduceEqDiff, Int.reduceNeg, Int.reduceEq, Int.reduceNe, Int.reduceBEq, Int.reduceBNe, Int.reduceLT, Int.reduceLE, Int.reduceGT, Int.reduceAdd, reduceIte, Bool.not_true, Bool.not_false, decide_true, decide_false, ne_eq, not_false_eq_true, not_true_eq_false, get_push_self]
      refine ⟨_, lookup_rdT keyS und70 und9 tyf3 ho1 hmo m.src false, ?_⟩
      have hg := hm.2.2 e0
      rw [lk_perm hp hnd, lk_dirK]
      cases hgi : dget m.src d with
      | none => exact absurd hgi hg
      | some i =>
        simp only [Option.map_some, Option.getD_some]
        simp only [cellH_mk, cellO_some, add_mk, size_upd, upd_upd, one_int, one_bool, one_string, one_pointer, one_slice, one_map, one_func, st1_some, stN_nil, stN_cons, StV_mk, StO_some, Ld_some, RtI_mk, RtB_mk, RtS_mk, RtP_mk, RtL_mk, RtM_mk, RtA_mk, RtT_mk, NilC_some, New_eq, At_eq, Ck_true, Rt0_mk, BrB_true, BrB_false, Nat.zero_add, List.length_cons, List.length_nil, List.getElem?_cons_zero, List.getElem?_cons_succ, List.set_cons_zero, List.set_cons_succ, List.getD_cons_zero, List.getD_cons_succ, Option.isNone_some, Option.isNone_none, Go.Disk.fsO, Go.Disk.fileO, Bool.false_eq_true, eq_self, Nat.reduceAdd, Nat.reduceSub, Nat.reduceMul, Nat.reduceLT, Nat.reduceLeDiff, Nat.reduceEqDiff, Int.reduceNeg, Int.reduceEq, Int.reduceNe, Int.reduceBEq, Int.reduceBNe, Int.reduceLT, Int.reduceLE, Int.reduceGT, Int.reduceAdd, reduceIte, Bool.not_true, Bool.not_false, decide_true, decide_false, ne_eq, not_false_eq_true, not_true_eq_false, get_push_self]
        refine wpH_delete (T' := 9) (ty := 0) keyS und70 und9 ho1 hmo m.src fun o' ho' => ?_
        have hne : mm ≠ H.size := by omega
        simp only [cellH_mk, cellO_some, add_mk, size_upd, upd_upd, one_int, one_bool, one_string, one_pointer, one_slice, one_map, one_func, st1_some, stN_nil, stN_cons, StV_mk, StO_some, Ld_some, RtI_mk, RtB_mk, RtS_mk, RtP_mk, RtL_mk, RtM_mk, RtA_mk, RtT_mk, NilC_some, New_eq, At_eq, Ck_true, Rt0_mk, BrB_true, BrB_false, Nat.zero_add, List.length_cons, List.length_nil, List.getElem?_cons_zero, List.getElem?_cons_succ, List.set_cons_zero, List.set_cons_succ, List.getD_cons_zero, List.getD_cons_succ, Option.isNone_some, Option.isNone_none, Go.Disk.fsO, Go.Disk.fileO, Bool.false_eq_true, eq_self, Nat.reduceAdd, Nat.reduceSub, Nat.reduceMul, Nat.reduceLT, Nat.reduceLeDiff, Nat.reduceEqDiff, Int.reduceNeg, Int.reduceEq, Int.reduceNe, Int.reduceBEq, Int.reduceBNe, Int.reduceLT, Int.reduceLE, Int.reduceGT, Int.reduceAdd, reduceIte, Bool.not_true, Bool.not_false, decide_true, decide_false, ne_eq, not_false_eq_true, not_true_eq_false, get_upd_ne, hne, get_push_self]
        have ho2 := get_upd_of (o' := o') ho1
        refine wpH_mapUpdate keyS und70 und9 ho2 ho' m.dst _ fun o'' ho'' => ?_
        simp only [cellH_mk, cellO_some, add_mk, size_upd, upd_upd, one_int, one_bool, one_string, one_pointer, one_slice, one_map, one_func, st1_some, stN_nil, stN_cons, StV_mk, StO_some, Ld_some, RtI_mk, RtB_mk, RtS_mk, RtP_mk, RtL_mk, RtM_mk, RtA_mk, RtT_mk, NilC_some, New_eq, At_eq, Ck_true, Rt0_mk, BrB_true, BrB_false, Nat.zero_add, List.length_cons, List.length_nil, List.getElem?_cons_zero, List.getElem?_cons_succ, List.set_cons_zero, List.set_cons_succ, List.getD_cons_zero, List.getD_cons_succ, Option.isNone_some, Option.isNone_none, Go.Disk.fsO, Go.Disk.fileO, Bool.false_eq_true, eq_self, Nat.reduceAdd, Nat.reduceSub, Nat.reduceMul, Nat.reduceLT, Nat.reduceLeDiff, Nat.reduceEqDiff, Int.reduceNeg, Int.reduceEq, Int.reduceNe, Int.reduceBEq, Int.reduceBNe, Int.reduceLT, Int.reduceLE, Int.reduceGT, Int.reduceAdd, reduceIte, Bool.not_true, Bool.not_false, decide_true, decide_false, ne_eq, not_false_eq_true, not_true_eq_false]
        refine hK _ _ ⟨hc1, o'', get_upd_of ho1, ?_⟩ (hev1.trans (ev_upd hc1 _))
        unfold Mv.app
        rw [if_neg e0, if_pos e1, hgi]
        have hp2 : (del m.src kvs).Perm (dirK (ddel m.src d)) := by
          rw [← del_dirK]; exact del_perm hp hnd
        exact DirMap.put (hd.ddel _) (MapIs.nodup ho') hp2 _ _ ho''
    · have e1 : m.kind ≠ 1 := by intro h; rw [h] at e; cases e
      have e2 : m.kind = 2 := by have := hm.1; omega
      have e3 : (((m.kind : Nat) : Int) == 2) = true := by rw [e2]; rfl
      rw [e3]
      simp only [cellH_mk, cellO_some, add_mk, size_upd, upd_upd, one_int, one_bool, one_string, one_pointer, one_slice, one_map, one_func, st1_some, stN_nil, stN_cons, StV_mk, StO_some, Ld_some, RtI_mk, RtB_mk, RtS_mk, RtP_mk, RtL_mk, RtM_mk, RtA_mk, RtT_mk, NilC_some, New_eq, At_eq, Ck_true, Rt0_mk, BrB_true, BrB_false, Nat.zero_add, List.length_cons, List.length_nil, List.getElem?_cons_zero, List.getElem?_cons_succ, List.set_cons_zero, List.set_cons_succ, List.getD_cons_zero, List.getD_cons_succ, Option.isNone_some, Option.isNone_none, Go.Disk.fsO, Go.Disk.fileO, Bool.false_eq_true, eq_self, Nat.reduceAdd, Nat.reduceSub, Nat.reduceMul, Nat.reduceLT, Nat.reduceLeDiff, Nat.reduceEqDiff, Int.reduceNeg, Int.reduceEq, Int.reduceNe, Int.reduceBEq, Int.reduceBNe, Int.reduceLT, Int.reduceLE, Int.reduceGT, Int.reduceAdd, reduceIte, Bool.not_true, Bool.not_false, decide_true, decide_false, ne_eq, not_false_eq_true, not_true_eq_false, get_push_self]
      refine wpH_delete (T' := 9) (ty := 0) keyS und70 und9 ho1 hmo m.src fun o' ho' => ?_
      simp only [cellH_mk, cellO_some, add_mk, size_upd, upd_upd, one_int, one_bool, one_string, one_pointer, one_slice, one_map, one_func, st1_some, stN_nil, stN_cons, StV_mk, StO_some, Ld_some, RtI_mk, RtB_mk, RtS_mk, RtP_mk, RtL_mk, RtM_mk, RtA_mk, RtT_mk, NilC_some, New_eq, At_eq, Ck_true, Rt0_mk, BrB_true, BrB_false, Nat.zero_add, List.length_cons, List.length_nil, List.getElem?_cons_zero, List.getElem?_cons_succ, List.set_cons_zero, List.set_cons_succ, List.getD_cons_zero, List.getD_cons_succ, Option.isNone_some, Option.isNone_none, Go.Disk.fsO, Go.Disk.fileO, Bool.false_eq_true, eq_self, Nat.reduceAdd, Nat.reduceSub, Nat.reduceMul, Nat.reduceLT, Nat.reduceLeDiff, Nat.reduceEqDiff, Int.reduceNeg, Int.reduceEq, Int.reduceNe, Int.reduceBEq, Int.reduceBNe, Int.reduceLT, Int.reduceLE, Int.reduceGT, Int.reduceAdd, reduceIte, Bool.not_true, Bool.not_false, decide_true, decide_false, ne_eq, not_false_eq_true, not_true_eq_false]
      refine hK _ _ ⟨hc1, o', get_upd_of ho1, ?_⟩ (hev1.trans (ev_upd hc1 _))
      unfold Mv.app
      rw [if_neg e0, if_neg e1]
      exact DirMap.del hnd hp _ ho'
end Go.Proofs

namespace Go.Disk
open Go Go.Fx
theorem fs_put {H : Heap} {C : Col} {k : Nat} {x : FsX} {D : Disk} {u : Nat} {o : Obj} (hk : k ≠ 0) (cp : C x.p = (k, 0)) (hp : H[x.p]? = some o)
    (hf : FilesAt H C k x.mf x.fbs D.files) (hs : DirAt H C (k, 2) x.ms D.sure) (hn : DirAt H C (k, 3) x.mv D.seen) (hr : RowAt H C k x.row D.row) :
    FsAt (upd H x.p (fsO (x.r D u))) C k x D u ∧ Ev (at1 (k, 0)) H C (upd H x.p (fsO (x.r D u))) C := by
  have he : Ev (at1 (k, 0)) H C (upd H x.p (fsO (x.r D u))) C := ev_upd cp _
  have h0 := at1_no0 (k := k) (j := 0) hk
  exact ⟨⟨cp, get_upd_of hp, hf.ev he h0 (at1_ne (by omega)) fun j hj => at1_ne (by omega), hs.ev he (at1_ne (by omega)), hn.ev he (at1_ne (by omega)), hr.ev he (at1_ne (by omega))⟩, he⟩
theorem mvsCells_snoc (ms : List Mv) (m : Mv) : mvsCells (ms ++ [m]) = mvsCells ms ++ mvCells m := by simp [mvsCells]
theorem mvCells_one {m : Mv} : ∀ v ∈ mvCells m, v.oneCell = true := by
  intro v hv
  simp only [mvCells, List.mem_cons, List.not_mem_nil, or_false] at hv
  rcases hv with rfl | rfl | rfl | rfl <;> rfl
end Go.Disk
namespace Go.Proofs
open Go Go.Fx Go.Disk
set_option linter.unusedVariables false
set_option maxRecDepth 20000

theorem turn_ok {H : Heap} {C : Col} {k : Nat} {x : FsX} {D : Disk} {u : Nat} {m : Mv} {K : Value → Heap → Prop} (hk : k ≠ 0) (h : FsAt H C k x D u) (hd : DSort D.seen)
    (hm : MvOk D.files.length m D.seen) (hD2 : DirOk D.files.length (m.app D.seen)) (hl : ∀ n, flen D.files n ≤ 2 ^ 20) (ha : D.acts < 2 ^ 40) (hr : D.row.length ≤ 2 ^ 40) (hf : D.fuse < 2 ^ 63) (hdd : D.dead = false)
    (hK : ∀ H' C', IsFS H' C' k x.p (D.turnBy m).blow → Ev (own k) H C H' C' → K (.int .i64 (if D.fuse = 1 then 13 else 0)) H') :
    Fn 48 [.pointer (some ⟨x.p, 0, none⟩), .agg ⟨mvCells m⟩] H K := by
  have hmdo := @moveDo_ok
  unfold mvCells at hmdo ⊢
  refine F48_ok _ _ _ _ _ ?_
  unfold F48
  have hp := h.hp
  rw [fsX] at hp
  have hlt := lt_of_get hp
  simp only [cellH_mk, cellO_some, add_mk, size_upd, upd_upd, one_int, one_bool, one_string, one_pointer, one_slice, one_map, one_func, st1_some, stN_nil, stN_cons, StV_mk, StO_some, Ld_some, RtI_mk, RtB_mk, RtS_mk, RtP_mk, RtL_mk, RtM_mk, RtA_mk, RtT_mk, NilC_some, New_eq, At_eq, Ck_true, Rt0_mk, BrB_true, BrB_false, Nat.zero_add, List.length_cons, List.length_nil, List.getElem?_cons_zero, List.getElem?_cons_succ, List.set_cons_zero, List.set_cons_succ, List.getD_cons_zero, List.getD_cons_succ, Option.isNone_some, Option.isNone_none, Go.Disk.fsO, Go.Disk.fileO, Bool.false_eq_true, eq_self, Nat.reduceAdd, Nat.reduceSub, Nat.reduceMul, Nat.reduceLT, Nat.reduceLeDiff, Nat.reduceEqDiff, Int.reduceNeg, Int.reduceEq, Int.reduceNe, Int.reduceBEq, Int.reduceBNe, Int.reduceLT, Int.reduceLE, Int.reduceGT, Int.reduceAdd, reduceIte, Bool.not_true, Bool.not_false, decide_true, decide_false, ne_eq, not_false_eq_true, not_true_eq_false, NewN_eq]
  rw [rowV_mk _ _ 0 4 (get_push_self _ _) (by simp)]
  simp only [List.drop_zero, List.take_succ_cons, List.take_zero]
  generalize hO : Obj.cells ⟨[.int .i64 (m.kind : Int), .string m.src, .string m.dst, .int .i64 (if m.kind = 0 then (m.file : Int) + 1 else 0)]⟩ 85 = o
  have hev1 := ev_push (at1 (k, 4)) H C o (0, 0)
  have h1 := h.ev hev1 (at1_no0 hk) fun j hj => at1_ne hj
  have hp1 := h1.hp
  rw [fsX] at hp1
  generalize hH1 : H.push o = H1 at *
  generalize hC1 : setC C H.size (0, 0) = C1 at *
  have hnb : H1[H.size]? = some o := by rw [← hH1]; exact get_push_self _ _
  have hcb : C1 H.size = (0, 0) := by rw [← hC1]; exact setC_self _ _ _
  simp only [cellH_mk, cellO_some, add_mk, size_upd, upd_upd, one_int, one_bool, one_string, one_pointer, one_slice, one_map, one_func, st1_some, stN_nil, stN_cons, StV_mk, StO_some, Ld_some, RtI_mk, RtB_mk, RtS_mk, RtP_mk, RtL_mk, RtM_mk, RtA_mk, RtT_mk, NilC_some, New_eq, At_eq, Ck_true, Rt0_mk, BrB_true, BrB_false, Nat.zero_add, List.length_cons, List.length_nil, List.getElem?_cons_zero, List.getElem?_cons_succ, List.set_cons_zero, List.set_cons_succ, List.getD_cons_zero, List.getD_cons_succ, Option.isNone_some, Option.isNone_none, Go.Disk.fsO, Go.Disk.fileO, Bool.false_eq_true, eq_self, Nat.reduceAdd, Nat.reduceSub, Nat.reduceMul, Nat.reduceLT, Nat.reduceLeDiff, Nat.reduceEqDiff, Int.reduceNeg, Int.reduceEq, Int.reduceNe, Int.reduceBEq, Int.reduceBNe, Int.reduceLT, Int.reduceLE, Int.reduceGT, Int.reduceAdd, reduceIte, Bool.not_true, Bool.not_false, decide_true, decide_false, ne_eq, not_false_eq_true, not_true_eq_false, hp1]
  refine hmdo h1.seen hd hm fun H2 C2 hs2 hev2 => ?_
  have hnb2 := hev2.get hnb (by rw [hcb]; exact fun e => hk (Prod.mk.inj e).1.symm)
  have hp2 := hev2.get hp1 (by rw [h1.cp]; exact at1_ne (by omega))
  have hcp2 := (hev2.colOf hp1).trans h1.cp
  have hf2 := h1.files.ev hev2 (at1_no0 hk) (at1_ne (by omega)) fun j hj => at1_ne (by omega)
  have hsu2 := h1.sure.ev hev2 (at1_ne (by omega))
  have hr2 := h1.row.ev hev2 (at1_ne (by omega))
  rw [← hO] at hnb2
  simp only [cellH_mk, cellO_some, add_mk, size_upd, upd_upd, one_int, one_bool, one_string, one_pointer, one_slice, one_map, one_func, st1_some, stN_nil, stN_cons, StV_mk, StO_some, Ld_some, RtI_mk, RtB_mk, RtS_mk, RtP_mk, RtL_mk, RtM_mk, RtA_mk, RtT_mk, NilC_some, New_eq, At_eq, Ck_true, Rt0_mk, BrB_true, BrB_false, Nat.zero_add, List.length_cons, List.length_nil, List.getElem?_cons_zero, List.getElem?_cons_succ, List.set_cons_zero, List.set_cons_succ, List.getD_cons_zero, List.getD_cons_succ, Option.isNone_some, Option.isNone_none, Go.Disk.fsO, Go.Disk.fileO, Bool.false_eq_true, eq_self, Nat.reduceAdd, Nat.reduceSub, Nat.reduceMul, Nat.reduceLT, Nat.reduceLeDiff, Nat.reduceEqDiff, Int.reduceNeg, Int.reduceEq, Int.reduceNe, Int.reduceBEq, Int.reduceBNe, Int.reduceLT, Int.reduceLE, Int.reduceGT, Int.reduceAdd, reduceIte, Bool.not_true, Bool.not_false, decide_true, decide_false, ne_eq, not_false_eq_true, not_true_eq_false, hp2]
  rw [rowV_mk _ _ 0 4 hnb2 (by simp)]
  simp only [List.drop_zero, List.take_succ_cons, List.take_zero]
  simp only [cellH_mk, cellO_some, add_mk, size_upd, upd_upd, one_int, one_bool, one_string, one_pointer, one_slice, one_map, one_func, st1_some, stN_nil, stN_cons, StV_mk, StO_some, Ld_some, RtI_mk, RtB_mk, RtS_mk, RtP_mk, RtL_mk, RtM_mk, RtA_mk, RtT_mk, NilC_some, New_eq, At_eq, Ck_true, Rt0_mk, BrB_true, BrB_false, Nat.zero_add, List.length_cons, List.length_nil, List.getElem?_cons_zero, List.getElem?_cons_succ, List.set_cons_zero, List.set_cons_succ, List.getD_cons_zero, List.getD_cons_succ, Option.isNone_some, Option.isNone_none, Go.Disk.fsO, Go.Disk.fileO, Bool.false_eq_true, eq_self, Nat.reduceAdd, Nat.reduceSub, Nat.reduceMul, Nat.reduceLT, Nat.reduceLeDiff, Nat.reduceEqDiff, Int.reduceNeg, Int.reduceEq, Int.reduceNe, Int.reduceBEq, Int.reduceBNe, Int.reduceLT, Int.reduceLE, Int.reduceGT, Int.reduceAdd, reduceIte, Bool.not_true, Bool.not_false, decide_true, decide_false, ne_eq, not_false_eq_true, not_true_eq_false]
  refine build_oneK und71 tyf85 (by rfl) (by rfl) (by omega) (by omega) ?_
  have hev3 := ev_push (at1 (k, 4)) H2 C2 (.cells (Value.cells (.agg ⟨[.int .i64 (m.kind : Int), .string m.src, .string m.dst, .int .i64 (if m.kind = 0 then (m.file : Int) + 1 else 0)]⟩)) 85) (0, 0)
  have hp3 := hev3.get hp2 (by rw [hcp2]; exact at1_ne (by omega))
  have hcp3 := (hev3.colOf hp2).trans hcp2
  have hf3 := hf2.ev hev3 (at1_no0 hk) (at1_ne (by omega)) fun j hj => at1_ne (by omega)
  have hsu3 := hsu2.ev hev3 (at1_ne (by omega))
  have hr3 := hr2.ev hev3 (at1_ne (by omega))
  have hs3 := hs2.ev hev3 (at1_ne (by omega))
  simp only [cellH_mk, cellO_some, add_mk, size_upd, upd_upd, one_int, one_bool, one_string, one_pointer, one_slice, one_map, one_func, st1_some, stN_nil, stN_cons, StV_mk, StO_some, Ld_some, RtI_mk, RtB_mk, RtS_mk, RtP_mk, RtL_mk, RtM_mk, RtA_mk, RtT_mk, NilC_some, New_eq, At_eq, Ck_true, Rt0_mk, BrB_true, BrB_false, Nat.zero_add, List.length_cons, List.length_nil, List.getElem?_cons_zero, List.getElem?_cons_succ, List.set_cons_zero, List.set_cons_succ, List.getD_cons_zero, List.getD_cons_succ, Option.isNone_some, Option.isNone_none, Go.Disk.fsO, Go.Disk.fileO, Bool.false_eq_true, eq_self, Nat.reduceAdd, Nat.reduceSub, Nat.reduceMul, Nat.reduceLT, Nat.reduceLeDiff, Nat.reduceEqDiff, Int.reduceNeg, Int.reduceEq, Int.reduceNe, Int.reduceBEq, Int.reduceBNe, Int.reduceLT, Int.reduceLE, Int.reduceGT, Int.reduceAdd, reduceIte, Bool.not_true, Bool.not_false, decide_true, decide_false, ne_eq, not_false_eq_true, not_true_eq_false, hp3]
  have hsrc := SrcH_one (s := 4) (get_push_self H2 (.cells (Value.cells (.agg ⟨[.int .i64 (m.kind : Int), .string m.src, .string m.dst, .int .i64 (if m.kind = 0 then (m.file : Int) + 1 else 0)]⟩)) 85)) rfl
  generalize hH3 : H2.push _ = H3 at *
  generalize hC3 : setC C2 H2.size (0, 0) = C3 at *
  have hrl := hr3.2
  have hone : ∀ v ∈ mvCells m, v.oneCell = true := mvCells_one
  refine app_ownK (C := C3) (lab := (k, 5)) (new := mvCells m) und71 und71 (.inl ⟨_, rfl⟩) tyf85 (by rfl) hsrc (by rfl) hone hr3.1 (by rw [hrl]; omega) (by rw [hrl]; omega) fun a' c' H4 C4 hr4 hev4 _ => ?_
  have hp4 := hev4.get hp3 (by rw [hcp3]; exact at1_ne (by omega))
  have hcp4 := (hev4.colOf hp3).trans hcp3
  have hf4 := hf3.ev hev4 (at1_no0 hk) (at1_ne (by omega)) fun j hj => at1_ne (by omega)
  have hsu4 := hsu3.ev hev4 (at1_ne (by omega))
  have hs4 := hs3.ev hev4 (at1_ne (by omega))
  simp only [cellH_mk, cellO_some, add_mk, size_upd, upd_upd, one_int, one_bool, one_string, one_pointer, one_slice, one_map, one_func, st1_some, stN_nil, stN_cons, StV_mk, StO_some, Ld_some, RtI_mk, RtB_mk, RtS_mk, RtP_mk, RtL_mk, RtM_mk, RtA_mk, RtT_mk, NilC_some, New_eq, At_eq, Ck_true, Rt0_mk, BrB_true, BrB_false, Nat.zero_add, List.length_cons, List.length_nil, List.getElem?_cons_zero, List.getElem?_cons_succ, List.set_cons_zero, List.set_cons_succ, List.getD_cons_zero, List.getD_cons_succ, Option.isNone_some, Option.isNone_none, Go.Disk.fsO, Go.Disk.fileO, Bool.false_eq_true, eq_self, Nat.reduceAdd, Nat.reduceSub, Nat.reduceMul, Nat.reduceLT, Nat.reduceLeDiff, Nat.reduceEqDiff, Int.reduceNeg, Int.reduceEq, Int.reduceNe, Int.reduceBEq, Int.reduceBNe, Int.reduceLT, Int.reduceLE, Int.reduceGT, Int.reduceAdd, reduceIte, Bool.not_true, Bool.not_false, decide_true, decide_false, ne_eq, not_false_eq_true, not_true_eq_false, hp4]
  rw [← mvsCells_snoc] at hr4
  obtain ⟨h5, hev5⟩ := fs_put (x := { x with row := (a', x.row.2.1 + 1, c') }) (D := D.turnBy m) (u := u) hk hcp4 hp4 hf4 hsu4 hs4 ⟨hr4, by rw [hrl]; simp [Disk.turnBy]⟩
  rw [fsX] at h5 hev5
  refine count_ok (x := { x with row := (a', x.row.2.1 + 1, c') }) (D := D.turnBy m) hk h5 hD2 hl fun H6 C6 h6 hev6 => ?_
  simp only [cellH_mk, cellO_some, add_mk, size_upd, upd_upd, one_int, one_bool, one_string, one_pointer, one_slice, one_map, one_func, st1_some, stN_nil, stN_cons, StV_mk, StO_some, Ld_some, RtI_mk, RtB_mk, RtS_mk, RtP_mk, RtL_mk, RtM_mk, RtA_mk, RtT_mk, NilC_some, New_eq, At_eq, Ck_true, Rt0_mk, BrB_true, BrB_false, Nat.zero_add, List.length_cons, List.length_nil, List.getElem?_cons_zero, List.getElem?_cons_succ, List.set_cons_zero, List.set_cons_succ, List.getD_cons_zero, List.getD_cons_succ, Option.isNone_some, Option.isNone_none, Go.Disk.fsO, Go.Disk.fileO, Bool.false_eq_true, eq_self, Nat.reduceAdd, Nat.reduceSub, Nat.reduceMul, Nat.reduceLT, Nat.reduceLeDiff, Nat.reduceEqDiff, Int.reduceNeg, Int.reduceEq, Int.reduceNe, Int.reduceBEq, Int.reduceBNe, Int.reduceLT, Int.reduceLE, Int.reduceGT, Int.reduceAdd, reduceIte, Bool.not_true, Bool.not_false, decide_true, decide_false, ne_eq, not_false_eq_true, not_true_eq_false]
  refine end_ok (x := { x with row := (a', x.row.2.1 + 1, c') }) (D := D.turnBy m) hk h6 ha hf hdd fun H7 h7 hev7 => ?_
  simp only [cellH_mk, cellO_some, add_mk, size_upd, upd_upd, one_int, one_bool, one_string, one_pointer, one_slice, one_map, one_func, st1_some, stN_nil, stN_cons, StV_mk, StO_some, Ld_some, RtI_mk, RtB_mk, RtS_mk, RtP_mk, RtL_mk, RtM_mk, RtA_mk, RtT_mk, NilC_some, New_eq, At_eq, Ck_true, Rt0_mk, BrB_true, BrB_false, Nat.zero_add, List.length_cons, List.length_nil, List.getElem?_cons_zero, List.getElem?_cons_succ, List.set_cons_zero, List.set_cons_succ, List.getD_cons_zero, List.getD_cons_succ, Option.isNone_some, Option.isNone_none, Go.Disk.fsO, Go.Disk.fileO, Bool.false_eq_true, eq_self, Nat.reduceAdd, Nat.reduceSub, Nat.reduceMul, Nat.reduceLT, Nat.reduceLeDiff, Nat.reduceEqDiff, Int.reduceNeg, Int.reduceEq, Int.reduceNe, Int.reduceBEq, Int.reduceBNe, Int.reduceLT, Int.reduceLE, Int.reduceGT, Int.reduceAdd, reduceIte, Bool.not_true, Bool.not_false, decide_true, decide_false, ne_eq, not_false_eq_true, not_true_eq_false]
  refine hK H7 C6 ⟨{ x with row := (a', x.row.2.1 + 1, c') }, rfl, h7⟩ ?_
  exact (hev1.mono fun _ => own_of_at1).trans <| (hev2.mono fun _ => own_of_at1).trans <| (hev3.mono fun _ => own_of_at1).trans <| (hev4.mono fun _ => own_of_at1).trans <| (hev5.mono fun _ => own_of_at1).trans <| hev6.trans (hev7.mono fun _ => own_of_at1)
end Go.Proofs

namespace Go.Fx
open Go
set_option linter.unusedVariables false

/-! ## An owner that nobody has -/
theorem fresh (C : Col) : ∀ n : Nat, ∃ m, ∀ b, b < n → (C b).1 < m
  | 0 => ⟨0, fun b h => absurd h (by omega)⟩
  | n + 1 => by
    obtain ⟨m, hm⟩ := fresh C n
    refine ⟨m + (C n).1 + 1, fun b hb => ?_⟩
    by_cases e : b = n
    · subst e; omega
    · have := hm b (by omega); omega
theorem fresh_own (C : Col) (n : Nat) : ∃ k, k ≠ 0 ∧ ∀ b, b < n → (C b).1 ≠ k := by
  obtain ⟨m, hm⟩ := fresh C n
  exact ⟨m + 1, by omega, fun b hb => by have := hm b hb; omega⟩
def recol (C : Col) (k : Nat) (f : Nat → Lab) : Col := fun b => if (C b).1 = k then f (C b).2 else C b
theorem recol_at {C : Col} {k j b : Nat} {f : Nat → Lab} (h : C b = (k, j)) : recol C k f b = f j := by simp [recol, h]
theorem recol_ne {C : Col} {k b : Nat} {f : Nat → Lab} (h : (C b).1 ≠ k) : recol C k f b = C b := by simp [recol, h]
theorem Ev.done {H H' : Heap} {C C' : Col} {k : Nat} (h : Ev (own k) H C H' C') (hf : ∀ b, b < H.size → (C b).1 ≠ k) (f : Nat → Lab) : Ev no H C H' (recol C' k f) :=
  ⟨h.size, fun b hb => by rw [recol_ne (by rw [h.col b hb]; exact hf b hb)]; exact h.col b hb, fun b hb _ => h.keep b hb (hf b hb)⟩
theorem SlO.recol {H : Heap} {C : Col} {k j : Nat} {t : TypeId} {sz : Nat} {a : Option Addr} {l c : Nat} {cells : List Value} (h : SlO H C (k, j) t sz a l c cells) (f : Nat → Lab) : SlO H (Fx.recol C k f) (f j) t sz a l c cells := by
  obtain ⟨h1, h2, h3⟩ := h
  refine ⟨h1, h2, h3.imp id ?_⟩
  rintro ⟨b, cs, e, hc, r⟩
  exact ⟨b, cs, e, recol_at hc, r⟩
theorem SlI.recol {H : Heap} {C : Col} {k : Nat} {sz : Nat} {a : Option Addr} {l c : Nat} {cells : List Value} (h : SlI H C sz a l c cells) (hk : k ≠ 0) (f : Nat → Lab) : SlI H (Fx.recol C k f) sz a l c cells := by
  obtain ⟨h1, h2, h3⟩ := h
  refine ⟨h1, h2, h3.imp id ?_⟩
  rintro ⟨b, off, cs, t, fz, e, hc, r⟩
  exact ⟨b, off, cs, t, fz, e, by rw [recol_ne (by omega)]; exact hc, r⟩

/-! ## Slices to read -/
def SlR (H : Heap) (sz : Nat) (a : Option Addr) (l c : Nat) (cells : List Value) : Prop :=
  cells.length = l * sz ∧ l ≤ c ∧ (l = 0 ∨ ∃ b off cs t fz, a = some ⟨b, off, none⟩ ∧ H[b]? = some (.cells ⟨cs⟩ t fz) ∧ off + l * sz ≤ cs.length ∧ (cs.drop off).take (l * sz) = cells)
theorem SlI.r {H : Heap} {C : Col} {sz : Nat} {a : Option Addr} {l c : Nat} {cells : List Value} (h : SlI H C sz a l c cells) : SlR H sz a l c cells := by
  obtain ⟨h1, h2, h3⟩ := h
  refine ⟨h1, h2, h3.imp id ?_⟩
  rintro ⟨b, off, cs, t, fz, e, hc, r⟩
  exact ⟨b, off, cs, t, fz, e, r⟩
theorem SlO.r {H : Heap} {C : Col} {lab : Lab} {t : TypeId} {sz : Nat} {a : Option Addr} {l c : Nat} {cells : List Value} (h : SlO H C lab t sz a l c cells) : SlR H sz a l c cells := by
  obtain ⟨h1, h2, h3⟩ := h
  refine ⟨h1, h2, ?_⟩
  rcases h3 with ⟨_, rfl, _⟩ | ⟨b, cs, e, hc, hb, hl, hcs⟩
  · exact .inl rfl
  · exact .inr ⟨b, 0, cs, t, _, e, hb, by rw [Nat.zero_add, hl]; exact Nat.mul_le_mul_right _ h2, by rw [List.drop_zero]; exact hcs⟩
theorem sub_list {cs cells : List Value} {off l sz lo hi : Nat} (h : (cs.drop off).take (l * sz) = cells) (h2 : hi ≤ l) : (cs.drop (off + lo * sz)).take ((hi - lo) * sz) = (cells.drop (lo * sz)).take ((hi - lo) * sz) := by
  rw [← h, List.drop_take, List.take_take, List.drop_drop]
  by_cases hlo : lo ≤ hi
  · congr 1
    rw [Nat.min_eq_left]
    rw [← Nat.sub_mul]
    exact Nat.mul_le_mul_right _ (by omega)
  · have : hi - lo = 0 := by omega
    rw [this]; simp
theorem slA_some {b off : Nat} {lo mx sz : Nat} (h : lo < mx) : slA (some ⟨b, off, none⟩) (lo : Int) (mx : Int) sz = some ⟨b, off + lo * sz, none⟩ := by
  unfold slA
  rw [if_neg (by omega)]
  simp only [Option.map_some, Int.toNat_natCast, add_mk]
theorem slN_eq (lo hi : Nat) : slN (lo : Int) (hi : Int) = hi - lo := by simp [slN]
theorem SlR.sub {H : Heap} {sz : Nat} {a : Option Addr} {l c : Nat} {cells : List Value} (h : SlR H sz a l c cells) {lo hi mx : Nat} (h1 : lo ≤ hi) (h2 : hi ≤ l) (h3 : hi ≤ mx) :
    SlR H sz (slA a (lo : Int) (mx : Int) sz) (hi - lo) (mx - lo) ((cells.drop (lo * sz)).take ((hi - lo) * sz)) := by
  obtain ⟨g1, g2, g3⟩ := h
  have hle : (hi - lo) * sz ≤ (l - lo) * sz := Nat.mul_le_mul_right _ (by omega)
  refine ⟨by rw [List.length_take, List.length_drop, g1, ← Nat.sub_mul]; omega, by omega, ?_⟩
  by_cases e : hi = lo
  · exact .inl (by omega)
  · rcases g3 with h0 | ⟨b, off, cs, t, fz, rfl, hb, hl, hcs⟩
    · omega
    · refine .inr ⟨b, off + lo * sz, cs, t, fz, slA_some (by omega), hb, ?_, sub_list hcs h2⟩
      have : lo * sz + (hi - lo) * sz = hi * sz := by rw [← Nat.add_mul]; congr 1; omega
      have h4 : hi * sz ≤ l * sz := Nat.mul_le_mul_right _ h2
      omega
theorem SlI.sub {H : Heap} {C : Col} {sz : Nat} {a : Option Addr} {l c : Nat} {cells : List Value} (h : SlI H C sz a l c cells) {lo hi mx : Nat} (h1 : lo ≤ hi) (h2 : hi ≤ l) (h3 : hi ≤ mx) :
    SlI H C sz (slA a (lo : Int) (mx : Int) sz) (hi - lo) (mx - lo) ((cells.drop (lo * sz)).take ((hi - lo) * sz)) := by
  obtain ⟨g1, g2, g3⟩ := h
  have hle : (hi - lo) * sz ≤ (l - lo) * sz := Nat.mul_le_mul_right _ (by omega)
  refine ⟨by rw [List.length_take, List.length_drop, g1, ← Nat.sub_mul]; omega, by omega, ?_⟩
  by_cases e : hi = lo
  · exact .inl (by omega)
  · rcases g3 with h0 | ⟨b, off, cs, t, fz, rfl, hc, hb, hl, hcs⟩
    · omega
    · refine .inr ⟨b, off + lo * sz, cs, t, fz, slA_some (by omega), hc, hb, ?_, sub_list hcs h2⟩
      have : lo * sz + (hi - lo) * sz = hi * sz := by rw [← Nat.add_mul]; congr 1; omega
      have h4 : hi * sz ≤ l * sz := Nat.mul_le_mul_right _ h2
      omega

theorem rowO_take {H : Heap} {a : Addr} : ∀ {n i m : Nat} {vs : List Value}, rowO H a i n = some vs → m ≤ n → rowO H a i m = some (vs.take m)
  | _, _, 0, vs, _, _ => by simp [rowO]
  | 0, _, m + 1, _, _, h => absurd h (by omega)
  | n + 1, i, m + 1, vs, h, hm => by
    unfold rowO at h ⊢
    cases hv : cellH H (a.add i) with
    | none => simp [hv] at h
    | some v =>
      cases hr : rowO H a (Nat.succ i) n with
      | none => simp [hv, hr] at h
      | some us =>
        simp only [hv, hr, Option.some.injEq] at h
        subst h
        simp only [rowO_take hr (by omega : m ≤ n), List.take_succ_cons]

theorem upd_same {H : Heap} {b : Nat} {o : Obj} (h : H[b]? = some o) : upd H b o = H := by
  refine Array.ext_getElem? fun i => ?_
  by_cases e : b = i
  · subst e; rw [get_upd_of h, h]
  · rw [get_upd_ne _ e]

section
variable {P : Program}
theorem copyK {T T' e ty : TypeId} {z : Value} {s y : Nat} {H : Heap} {a a2 : Option Addr} {dl dc n l2 c2 : Nat} {new : List Value} {K : Value → Heap → Prop}
    (hT : P.underlying T = some (.slice e)) (hi : TyF P e z s y) (hx : SrcH H s (.slice a2 l2 c2) n new) (hn : new.length = n * s) (hone : ∀ v ∈ new, v.oneCell = true)
    (hd : (a = none ∧ K (.int .i64 ((Nat.min n dl : Nat) : Int)) H) ∨ ∃ b off cs t, a = some ⟨b, off, none⟩ ∧ H[b]? = some (.cells ⟨cs⟩ t (0, 0)) ∧ off + dl * s ≤ cs.length ∧
      K (.int .i64 ((Nat.min n dl : Nat) : Int)) (upd H b (.cells ⟨cs.take off ++ (new.take (Nat.min n dl * s) ++ cs.drop (off + Nat.min n dl * s))⟩ t (0, 0)))) :
    Smk P (Builtin.copy_ #[T, T'] ty ⟨[.slice a dl dc, .slice a2 l2 c2]⟩) H K := by
  obtain ⟨i, hi, hz, rfl, _⟩ := hi
  unfold Smk Sm Builtin.copy_
  have g0 : (#[T, T'])[0]? = some T := rfl
  have g2 : (⟨[.slice a dl dc, .slice a2 l2 c2]⟩ : Array Value)[0]? = some (.slice a dl dc) := rfl
  have g3 : (⟨[.slice a dl dc, .slice a2 l2 c2]⟩ : Array Value)[1]? = some (.slice a2 l2 c2) := rfl
  simp only [g0, g2, g3, wpH_bind', wpH_und hT, wpH_size hi, wpH_pure, wpH_lenOf hx]
  generalize hm : Nat.min n dl = m at *
  have hmn : m ≤ n := by rw [← hm]; exact Nat.min_le_left _ _
  have hmd : m ≤ dl := by rw [← hm]; exact Nat.min_le_right _ _
  have hms : m * i.size ≤ n * i.size := Nat.mul_le_mul_right _ hmn
  have hmds : m * i.size ≤ dl * i.size := Nat.mul_le_mul_right _ hmd
  have hlen : (new.take (m * i.size)).length = m * i.size := by rw [List.length_take, hn]; omega
  have hfin : ∀ {Q : Array Value → Heap → Prop}, Q ⟨new.take (m * i.size)⟩ H → wpH P (Builtin.firstCells i.size m (.slice a2 l2 c2)) Q H := by
    intro Q hQ
    unfold SrcH at hx
    cases a2 with
    | some a2 =>
      obtain ⟨rfl, hx⟩ := hx
      exact wpH_loadCells (rowO_take hx hms) hQ
    | none =>
      obtain ⟨rfl, rfl⟩ := hx
      unfold Builtin.firstCells
      rw [wpH_pure]
      simpa using hQ
  refine hfin ?_
  rcases hd with ⟨rfl, hK⟩ | ⟨b, off, cs, t, rfl, hb, hl, hK⟩
  · exact hK
  · simp only [wpH_bind', wpH_pure]
    refine storeCells_wp _ _ _ ?_
    show stL H ⟨b, off, none⟩ 0 (new.take (m * i.size)) _
    cases hne : new.take (m * i.size) with
    | nil =>
      have h0 : m * i.size = 0 := by rw [← hlen, hne]; rfl
      show K _ H
      rw [hne, h0, List.nil_append, Nat.add_zero, List.take_append_drop, upd_same hb] at hK
      exact hK
    | cons v vs =>
      rw [← hne]
      refine (stL_iff (new.take (m * i.size)) (H := H) (b := b) (off := off) (i := 0) (by rw [hne]; simp) (by omega)).2 ?_
      refine ⟨_, by rw [hb]; exact stN_run _ cs off (by rw [hlen]; omega) fun v hv => hone v (List.mem_of_mem_take hv), ?_⟩
      rw [hlen]
      exact hK
end
end Go.Fx

namespace Go.Disk
open Go Go.Fx
theorem byts_len (xs : List UInt8) : (byts xs).length = xs.length := by simp [byts]
theorem byts_take (xs : List UInt8) (n : Nat) : byts (xs.take n) = (byts xs).take n := by simp [byts, List.map_take]
theorem byts_drop (xs : List UInt8) (n : Nat) : byts (xs.drop n) = (byts xs).drop n := by simp [byts, List.map_drop]
theorem byts_append (xs ys : List UInt8) : byts (xs ++ ys) = byts xs ++ byts ys := by simp [byts]
theorem ByI.len {H : Heap} {C : Col} {s : SlV} {xs : List UInt8} (h : ByI H C s xs) : s.2.1 = xs.length := by
  have := h.1
  rw [byts_len] at this
  omega
theorem ByI.cap {H : Heap} {C : Col} {s : SlV} {xs : List UInt8} (h : ByI H C s xs) : xs.length ≤ s.2.2 := by
  have := h.2.1
  rw [← h.len]; exact this
theorem patch {α : Type} {cs ys nb : List α} {len off m : Nat} (h : cs.take len = ys) (hl : len ≤ cs.length) (hm : off + m ≤ len) (hn : nb.length = m) :
    (cs.take off ++ (nb ++ cs.drop (off + m))).take len = ys.take off ++ (nb ++ ys.drop (off + m)) := by
  subst h
  have e1 : (cs.take off).length = off := by rw [List.length_take]; omega
  rw [List.take_append, List.take_append, e1, hn, List.take_take, List.take_take, List.drop_take, Nat.min_eq_right (by omega), Nat.min_eq_left (by omega), List.take_of_length_le (by omega : nb.length ≤ len - off), show len - off - m = len - (off + m) from by omega]
theorem Chg.app_write {c : Chg} {xs : List UInt8} (hc : c.cut = false) (ho : c.off ≤ xs.length) :
    c.app xs = (xs.take c.off ++ (c.b.take (Nat.min c.b.length (xs.length - c.off)) ++ xs.drop (c.off + Nat.min c.b.length (xs.length - c.off)))) ++ c.b.drop (Nat.min c.b.length (xs.length - c.off)) := by
  unfold Chg.app
  rw [hc]
  simp only [Bool.false_eq_true, if_false]
  by_cases h : c.b.length ≤ xs.length - c.off
  · have e : Nat.min c.b.length (xs.length - c.off) = c.b.length := Nat.min_eq_left h
    rw [e, List.take_length, List.drop_length, List.append_nil]
  · have e : Nat.min c.b.length (xs.length - c.off) = xs.length - c.off := Nat.min_eq_right (by omega)
    rw [e, List.drop_eq_nil_of_le (by omega : xs.length ≤ c.off + (xs.length - c.off)), List.drop_eq_nil_of_le (by omega : xs.length ≤ c.off + c.b.length), List.append_nil, List.append_nil, List.append_assoc, List.take_append_drop]
theorem Chg.app_len {c : Chg} {xs : List UInt8} (ho : c.off ≤ xs.length) : (c.app xs).length = if c.cut then c.off else Nat.max (c.off + c.b.length) xs.length := by
  unfold Chg.app
  split
  · simp [ho]
  · simp only [List.length_append, List.length_take, List.length_drop]
    rw [Nat.min_eq_left ho]
    show _ = max _ _
    omega
end Go.Disk
namespace Go.Proofs
open Go Go.Fx Go.Disk
set_option linter.unusedVariables false
set_option maxRecDepth 20000

theorem chgDo_ok {H : Heap} {C : Col} {c : Chg} {sl s : SlV} {xs : List UInt8} {K : Value → Heap → Prop} (hb : ByI H C sl c.b) (hs : ByI H C s xs) (hc : ChOk c xs) (hl : xs.length ≤ 2 ^ 20)
    (hK : ∀ (s' : SlV) H' C', ByI H' C' s' (c.app xs) → Ev no H C H' C' → K (.slice s'.1 s'.2.1 s'.2.2) H') :
    Fn 81 [.agg ⟨[.bool c.cut, .int .i64 (c.off : Int), .slice sl.1 sl.2.1 sl.2.2]⟩, .slice s.1 s.2.1 s.2.2] H K := by
  refine F81_ok _ _ _ _ _ _ _ _ ?_
  unfold F81
  simp only [cellH_mk, cellO_some, add_mk, size_upd, upd_upd, one_int, one_bool, one_string, one_pointer, one_slice, one_map, one_func, st1_some, stN_nil, stN_cons, StV_mk, StO_some, Ld_some, RtI_mk, RtB_mk, RtS_mk, RtP_mk, RtL_mk, RtM_mk, RtA_mk, RtT_mk, NilC_some, New_eq, At_eq, Ck_true, Rt0_mk, BrB_true, BrB_false, Nat.zero_add, List.length_cons, List.length_nil, List.getElem?_cons_zero, List.getElem?_cons_succ, List.set_cons_zero, List.set_cons_succ, List.getD_cons_zero, List.getD_cons_succ, Option.isNone_some, Option.isNone_none, Go.Disk.fsO, Go.Disk.fileO, Bool.false_eq_true, eq_self, Nat.reduceAdd, Nat.reduceSub, Nat.reduceMul, Nat.reduceLT, Nat.reduceLeDiff, Nat.reduceEqDiff, Int.reduceNeg, Int.reduceEq, Int.reduceNe, Int.reduceBEq, Int.reduceBNe, Int.reduceLT, Int.reduceLE, Int.reduceGT, Int.reduceAdd, reduceIte, Bool.not_true, Bool.not_false, decide_true, decide_false, ne_eq, not_false_eq_true, not_true_eq_false, NewN_eq]
  obtain ⟨k, hk, hfr⟩ := fresh_own C H.size
  generalize hO : Obj.cells ⟨[.bool c.cut, .int .i64 (c.off : Int), .slice sl.1 sl.2.1 sl.2.2]⟩ 90 = o
  have hev1 := ev_push no H C o (0, 0)
  have hb1 := hb.ev hev1 fun _ _ h => h
  have hs1 := hs.ev hev1 fun _ _ h => h
  have hnb : (H.push o)[H.size]? = some o := get_push_self _ _
  have hcb : setC C H.size (0, 0) H.size = (0, 0) := setC_self _ _ _
  generalize hH1 : H.push o = H1 at *
  generalize hC1 : setC C H.size (0, 0) = C1 at *
  rw [← hO] at hnb
  simp only [cellH_mk, cellO_some, add_mk, size_upd, upd_upd, one_int, one_bool, one_string, one_pointer, one_slice, one_map, one_func, st1_some, stN_nil, stN_cons, StV_mk, StO_some, Ld_some, RtI_mk, RtB_mk, RtS_mk, RtP_mk, RtL_mk, RtM_mk, RtA_mk, RtT_mk, NilC_some, New_eq, At_eq, Ck_true, Rt0_mk, BrB_true, BrB_false, Nat.zero_add, List.length_cons, List.length_nil, List.getElem?_cons_zero, List.getElem?_cons_succ, List.set_cons_zero, List.set_cons_succ, List.getD_cons_zero, List.getD_cons_succ, Option.isNone_some, Option.isNone_none, Go.Disk.fsO, Go.Disk.fileO, Bool.false_eq_true, eq_self, Nat.reduceAdd, Nat.reduceSub, Nat.reduceMul, Nat.reduceLT, Nat.reduceLeDiff, Nat.reduceEqDiff, Int.reduceNeg, Int.reduceEq, Int.reduceNe, Int.reduceBEq, Int.reduceBNe, Int.reduceLT, Int.reduceLE, Int.reduceGT, Int.reduceAdd, reduceIte, Bool.not_true, Bool.not_false, decide_true, decide_false, ne_eq, not_false_eq_true, not_true_eq_false, hnb]
  have hsl := hs.len
  have hsc := hs.cap
  cases hcut : c.cut with
  | true =>
    simp only [cellH_mk, cellO_some, add_mk, size_upd, upd_upd, one_int, one_bool, one_string, one_pointer, one_slice, one_map, one_func, st1_some, stN_nil, stN_cons, StV_mk, StO_some, Ld_some, RtI_mk, RtB_mk, RtS_mk, RtP_mk, RtL_mk, RtM_mk, RtA_mk, RtT_mk, NilC_some, New_eq, At_eq, Ck_true, Rt0_mk, BrB_true, BrB_false, Nat.zero_add, List.length_cons, List.length_nil, List.getElem?_cons_zero, List.getElem?_cons_succ, List.set_cons_zero, List.set_cons_succ, List.getD_cons_zero, List.getD_cons_succ, Option.isNone_some, Option.isNone_none, Go.Disk.fsO, Go.Disk.fileO, Bool.false_eq_true, eq_self, Nat.reduceAdd, Nat.reduceSub, Nat.reduceMul, Nat.reduceLT, Nat.reduceLeDiff, Nat.reduceEqDiff, Int.reduceNeg, Int.reduceEq, Int.reduceNe, Int.reduceBEq, Int.reduceBNe, Int.reduceLT, Int.reduceLE, Int.reduceGT, Int.reduceAdd, reduceIte, Bool.not_true, Bool.not_false, decide_true, decide_false, ne_eq, not_false_eq_true, not_true_eq_false, hnb]
    refine Ck_i ⟨trivial, by omega, by omega, by have := hc.1; omega⟩ ?_
    have h2 := SlI.sub hs1 (lo := 0) (hi := c.off) (mx := c.off) (by omega) (by have := hc.1; omega) (by omega)
    rw [show slN 0 (c.off : Int) = c.off - 0 from slN_eq 0 c.off]
    refine hK (slA s.1 0 (c.off : Int) 1, c.off - 0, c.off - 0) H1 C1 ?_ hev1
    unfold ByI
    have e : byts (c.app xs) = List.take ((c.off - 0) * 1) (List.drop (0 * 1) (byts xs)) := by
      unfold Chg.app
      rw [hcut, if_pos rfl, byts_take]; simp
    rw [e]
    exact h2
  | false =>
    simp only [cellH_mk, cellO_some, add_mk, size_upd, upd_upd, one_int, one_bool, one_string, one_pointer, one_slice, one_map, one_func, st1_some, stN_nil, stN_cons, StV_mk, StO_some, Ld_some, RtI_mk, RtB_mk, RtS_mk, RtP_mk, RtL_mk, RtM_mk, RtA_mk, RtT_mk, NilC_some, New_eq, At_eq, Ck_true, Rt0_mk, BrB_true, BrB_false, Nat.zero_add, List.length_cons, List.length_nil, List.getElem?_cons_zero, List.getElem?_cons_succ, List.set_cons_zero, List.set_cons_succ, List.getD_cons_zero, List.getD_cons_succ, Option.isNone_some, Option.isNone_none, Go.Disk.fsO, Go.Disk.fileO, Bool.false_eq_true, eq_self, Nat.reduceAdd, Nat.reduceSub, Nat.reduceMul, Nat.reduceLT, Nat.reduceLeDiff, Nat.reduceEqDiff, Int.reduceNeg, Int.reduceEq, Int.reduceNe, Int.reduceBEq, Int.reduceBNe, Int.reduceLT, Int.reduceLE, Int.reduceGT, Int.reduceAdd, reduceIte, Bool.not_true, Bool.not_false, decide_true, decide_false, ne_eq, not_false_eq_true, not_true_eq_false, hnb]
    refine app_copyK (C := C1) (lab := (k, 0)) und22 und22 (.inl ⟨_, rfl⟩) tyf5 (by rfl) hs1.src (by rw [byts_len, hsl]; omega) byts_one (by omega) (by omega) fun a2 c2 H2 C2 ho2 hev2 => ?_
    have hnb2 := hev2.get hnb fun h => h
    have hb2 := hb1.ev hev2 fun _ _ h => h
    have hof := hc.1
    have hcap := ho2.2.1
    simp only [cellH_mk, cellO_some, add_mk, size_upd, upd_upd, one_int, one_bool, one_string, one_pointer, one_slice, one_map, one_func, st1_some, stN_nil, stN_cons, StV_mk, StO_some, Ld_some, RtI_mk, RtB_mk, RtS_mk, RtP_mk, RtL_mk, RtM_mk, RtA_mk, RtT_mk, NilC_some, New_eq, At_eq, Ck_true, Rt0_mk, BrB_true, BrB_false, Nat.zero_add, List.length_cons, List.length_nil, List.getElem?_cons_zero, List.getElem?_cons_succ, List.set_cons_zero, List.set_cons_succ, List.getD_cons_zero, List.getD_cons_succ, Option.isNone_some, Option.isNone_none, Go.Disk.fsO, Go.Disk.fileO, Bool.false_eq_true, eq_self, Nat.reduceAdd, Nat.reduceSub, Nat.reduceMul, Nat.reduceLT, Nat.reduceLeDiff, Nat.reduceEqDiff, Int.reduceNeg, Int.reduceEq, Int.reduceNe, Int.reduceBEq, Int.reduceBNe, Int.reduceLT, Int.reduceLE, Int.reduceGT, Int.reduceAdd, reduceIte, Bool.not_true, Bool.not_false, decide_true, decide_false, ne_eq, not_false_eq_true, not_true_eq_false, hnb2]
    refine Ck_i ⟨by omega, by omega, by omega, by omega⟩ ?_
    simp only [cellH_mk, cellO_some, add_mk, size_upd, upd_upd, one_int, one_bool, one_string, one_pointer, one_slice, one_map, one_func, st1_some, stN_nil, stN_cons, StV_mk, StO_some, Ld_some, RtI_mk, RtB_mk, RtS_mk, RtP_mk, RtL_mk, RtM_mk, RtA_mk, RtT_mk, NilC_some, New_eq, At_eq, Ck_true, Rt0_mk, BrB_true, BrB_false, Nat.zero_add, List.length_cons, List.length_nil, List.getElem?_cons_zero, List.getElem?_cons_succ, List.set_cons_zero, List.set_cons_succ, List.getD_cons_zero, List.getD_cons_succ, Option.isNone_some, Option.isNone_none, Go.Disk.fsO, Go.Disk.fileO, Bool.false_eq_true, eq_self, Nat.reduceAdd, Nat.reduceSub, Nat.reduceMul, Nat.reduceLT, Nat.reduceLeDiff, Nat.reduceEqDiff, Int.reduceNeg, Int.reduceEq, Int.reduceNe, Int.reduceBEq, Int.reduceBNe, Int.reduceLT, Int.reduceLE, Int.reduceGT, Int.reduceAdd, reduceIte, Bool.not_true, Bool.not_false, decide_true, decide_false, ne_eq, not_false_eq_true, not_true_eq_false, hnb2]
    have hbl := hb2.len
    have hbc := hb2.cap
    rw [slN_eq, slN_eq]
    generalize hm : Nat.min sl.2.1 (s.2.1 - c.off) = m
    have hm1 : m ≤ sl.2.1 := by rw [← hm]; exact Nat.min_le_left _ _
    have hm2 : m ≤ s.2.1 - c.off := by rw [← hm]; exact Nat.min_le_right _ _
    have hcb2 : C2 H.size = (0, 0) := (hev2.colOf hnb).trans hcb
    have hev12 : Ev (own k) H C H2 C2 := (hev1.trans hev2).mono fun _ h => h.elim
    have happ := Chg.app_write hcut hof
    rw [← hbl, ← hsl, hm] at happ
    -- what comes behind the copy
    have rest : ∀ H3 a3, SlO H3 C2 (k, 0) 5 1 a3 s.2.1 c2 (byts (xs.take c.off ++ (c.b.take m ++ xs.drop (c.off + m)))) → a3 = a2 → Ev (own k) H C H3 C2 → H3[H.size]? = H2[H.size]? → ByI H3 C2 sl c.b →
        (RtI .i64 (.int .i64 ((m : Nat) : Int)) fun i23 => Ld (cellH H3 (Addr.add ⟨H.size, 0, none⟩ 2)) fun w26 => RtL w26 fun a26 l26 c26 => Ck ((0 : Int) ≤ i23 ∧ (i23 : Int) ≤ ((l26 : Nat) : Int) ∧ (((l26 : Nat) : Int) : Int) ≤ ((c26 : Nat) : Int) ∧ (((c26 : Nat) : Int) : Int) ≤ ((c26 : Nat) : Int)) (Smk Try.prog (Builtin.append_ #[22, 22] 22 ⟨[.slice a2 s.2.1 c2, .slice (slA a26 i23 ((c26 : Nat) : Int) 1) (slN i23 ((l26 : Nat) : Int)) (slN i23 ((c26 : Nat) : Int))]⟩) H3 fun v H => RtL v fun a29 l29 c29 => K (.slice a29 l29 c29) H)) := by
      intro H3 a3 ho3 ha hev3 hnb3 hb3
      subst ha
      rw [hnb2] at hnb3
      simp only [cellH_mk, cellO_some, add_mk, size_upd, upd_upd, one_int, one_bool, one_string, one_pointer, one_slice, one_map, one_func, st1_some, stN_nil, stN_cons, StV_mk, StO_some, Ld_some, RtI_mk, RtB_mk, RtS_mk, RtP_mk, RtL_mk, RtM_mk, RtA_mk, RtT_mk, NilC_some, New_eq, At_eq, Ck_true, Rt0_mk, BrB_true, BrB_false, Nat.zero_add, List.length_cons, List.length_nil, List.getElem?_cons_zero, List.getElem?_cons_succ, List.set_cons_zero, List.set_cons_succ, List.getD_cons_zero, List.getD_cons_succ, Option.isNone_some, Option.isNone_none, Go.Disk.fsO, Go.Disk.fileO, Bool.false_eq_true, eq_self, Nat.reduceAdd, Nat.reduceSub, Nat.reduceMul, Nat.reduceLT, Nat.reduceLeDiff, Nat.reduceEqDiff, Int.reduceNeg, Int.reduceEq, Int.reduceNe, Int.reduceBEq, Int.reduceBNe, Int.reduceLT, Int.reduceLE, Int.reduceGT, Int.reduceAdd, reduceIte, Bool.not_true, Bool.not_false, decide_true, decide_false, ne_eq, not_false_eq_true, not_true_eq_false, hnb3]
      refine Ck_i ⟨by omega, by omega, by omega, by omega⟩ ?_
      rw [slN_eq, slN_eq]
      have hsub := SlI.sub hb3 (lo := m) (hi := sl.2.1) (mx := sl.2.2) hm1 (Nat.le_refl _) (by omega)
      have e : List.take ((sl.2.1 - m) * 1) (List.drop (m * 1) (byts c.b)) = byts (c.b.drop m) := by
        rw [Nat.mul_one, Nat.mul_one, ← byts_drop, List.take_of_length_le]
        rw [byts_len, List.length_drop]; omega
      rw [e] at hsub
      refine app_ownK (C := C2) (lab := (k, 0)) und22 und22 (.inl ⟨_, rfl⟩) tyf5 (by rfl) hsub.src hsub.1 byts_one ho3 (by have := hc.2; omega) (by have := hc.2; omega) fun a4 c4 H4 C4 ho4 hev4 _ => ?_
      simp only [cellH_mk, cellO_some, add_mk, size_upd, upd_upd, one_int, one_bool, one_string, one_pointer, one_slice, one_map, one_func, st1_some, stN_nil, stN_cons, StV_mk, StO_some, Ld_some, RtI_mk, RtB_mk, RtS_mk, RtP_mk, RtL_mk, RtM_mk, RtA_mk, RtT_mk, NilC_some, New_eq, At_eq, Ck_true, Rt0_mk, BrB_true, BrB_false, Nat.zero_add, List.length_cons, List.length_nil, List.getElem?_cons_zero, List.getElem?_cons_succ, List.set_cons_zero, List.set_cons_succ, List.getD_cons_zero, List.getD_cons_succ, Option.isNone_some, Option.isNone_none, Go.Disk.fsO, Go.Disk.fileO, Bool.false_eq_true, eq_self, Nat.reduceAdd, Nat.reduceSub, Nat.reduceMul, Nat.reduceLT, Nat.reduceLeDiff, Nat.reduceEqDiff, Int.reduceNeg, Int.reduceEq, Int.reduceNe, Int.reduceBEq, Int.reduceBNe, Int.reduceLT, Int.reduceLE, Int.reduceGT, Int.reduceAdd, reduceIte, Bool.not_true, Bool.not_false, decide_true, decide_false, ne_eq, not_false_eq_true, not_true_eq_false]
      have hev := (hev3.trans (hev4.mono fun _ => own_of_at1)).done hfr fun _ => (0, 0)
      refine hK (a4, s.2.1 + (sl.2.1 - m), c4) H4 _ ?_ hev
      rw [← byts_append, ← happ] at ho4
      exact (ho4.recol fun _ => (0, 0)).imm rfl
    refine copyK und22 tyf5 hb2.src (by rw [byts_len, hbl]; omega) byts_one ?_
    rw [hm]
    obtain ⟨o1, o2, o3⟩ := ho2
    rcases o3 with ⟨ea, e0, ec⟩ | ⟨b, cs, ea, ecb, eb, ecl, ecs⟩
    · subst ea
      refine .inl ⟨by unfold slA; split <;> rfl, rest H2 none ⟨?_, hcap, .inl ⟨rfl, e0, ec⟩⟩ rfl hev12 rfl hb2⟩
      have : xs = [] := List.eq_nil_of_length_eq_zero (by omega)
      subst this
      have : m = 0 := by omega
      subst this
      simp [byts]; omega
    · subst ea
      have eb' := lt_of_get eb
      have hne : b ≠ H.size := by
        intro e
        rw [e, hcb2] at ecb
        exact hk (Prod.mk.inj ecb).1.symm
      rw [Nat.mul_one] at ecs ecl
      have hbl2 : (List.take (m * 1) (byts c.b)).length = m := by rw [List.length_take, byts_len, ← hbl]; omega
      by_cases h0 : c.off < c2
      · have hev3 : Ev (at1 (k, 0)) H2 C2 (upd H2 b (.cells ⟨cs.take (0 + c.off * 1) ++ ((byts c.b).take (m * 1) ++ cs.drop (0 + c.off * 1 + m * 1))⟩ 5 (0, 0))) C2 := ev_upd ecb _
        refine .inr ⟨b, 0 + c.off * 1, cs, 5, slA_some h0, eb, by omega, rest _ (some ⟨b, 0, none⟩) ⟨?_, hcap, .inr ⟨b, _, rfl, ecb, get_upd_of eb, ?_, ?_⟩⟩ rfl (hev12.trans (hev3.mono fun _ => own_of_at1)) (get_upd_ne _ hne) (hb2.ev hev3 (at1_no0 hk))⟩
        · rw [byts_len]
          simp only [List.length_append, List.length_take, List.length_drop]
          omega
        · simp only [List.length_append, List.length_drop, hbl2]
          rw [List.length_take]
          omega
        · rw [Nat.mul_one, Nat.mul_one, Nat.mul_one, Nat.zero_add] at *
          rw [patch ecs (by omega) (by omega) hbl2, byts_append, byts_append, byts_take, byts_take, byts_drop]
      · have hm0 : m = 0 := by omega
        subst hm0
        have heq : (cs.take 0 ++ ((byts c.b).take (0 * 1) ++ cs.drop (0 + 0 * 1))) = cs := by simp
        refine .inr ⟨b, 0, cs, 5, ?_, eb, by omega, ?_⟩
        · unfold slA
          rw [if_pos (by omega)]
        · rw [heq, upd_same eb]
          refine rest H2 (some ⟨b, 0, none⟩) ⟨?_, hcap, .inr ⟨b, cs, rfl, ecb, eb, by omega, ?_⟩⟩ rfl hev12 rfl hb2
          · rw [byts_len]
            simp only [List.length_append, List.length_take, List.length_drop]
            omega
          · rw [Nat.mul_one, ecs, List.take_zero, List.nil_append, Nat.add_zero, List.take_append_drop]
end Go.Proofs

namespace Go.Disk
open Go Go.Fx
def fileLab (k n : Nat) : Lab → Prop := fun l => l = (k, 6 + 2 * n) ∨ l = (k, 7 + 2 * n)
theorem fileLab_no0 {k n : Nat} (hk : k ≠ 0) : ∀ x : Lab, x.1 = 0 → ¬ fileLab k n x := by
  intro x h0 h
  unfold fileLab at h
  rcases h with h | h <;> (rw [h] at h0; exact hk h0)
theorem fileLab_lt {k n j : Nat} (hj : j < 6) : ¬ fileLab k n (k, j) := by
  intro h
  unfold fileLab at h
  rcases h with h | h <;> (have := (Prod.mk.inj h).2; omega)
theorem own_of_file {k n : Nat} {l : Lab} (h : fileLab k n l) : own k l := by
  unfold fileLab at h
  rcases h with h | h <;> (rw [h]; rfl)
theorem FilesAt.set {H H' : Heap} {C C' : Col} {k mf : Nat} {fbs : List Nat} {fs : List FileA} {n fb : Nat} {f : FileA} {g : FileA → FileA} (hk : k ≠ 0) (h : FilesAt H C k mf fbs fs) (he : Ev (fileLab k n) H C H' C')
    (hf : FileAt H' C' k n fb (g f)) (hb : fbs[n]? = some fb) (hn : fs[n]? = some f) : FilesAt H' C' k mf fbs (fs.modify n g) := by
  obtain ⟨a, ⟨o, kvs, b, c, d⟩, e, q⟩ := h
  refine ⟨(he.colOf b).trans a, ⟨o, kvs, he.get b (by rw [a]; exact fileLab_lt (by omega)), c, d⟩, by simpa using e, fun i fb' f' q1 q2 => ?_⟩
  rw [List.getElem?_modify] at q2
  by_cases hi : n = i
  · subst hi
    rw [hb] at q1
    rw [hn] at q2
    cases q1
    simp at q2
    subst q2
    exact hf
  · simp [hi] at q2
    refine (q i fb' f' q1 q2).ev he (fileLab_no0 hk) ?_ ?_
    · intro h
      unfold fileLab at h
      rcases h with h | h <;> (have := (Prod.mk.inj h).2; omega)
    · intro h
      unfold fileLab at h
      rcases h with h | h <;> (have := (Prod.mk.inj h).2; omega)
def chgCells (c : Chg) (s : SlV) : List Value := [.bool c.cut, .int .i64 (c.off : Int), .slice s.1 s.2.1 s.2.2]
theorem ChgsAt.snoc {H : Heap} {C : Col} {c : Chg} {s : SlV} (hs : ByI H C s c.b) : ∀ {cs : List Chg} {vs : List Value}, ChgsAt H C cs vs → ChgsAt H C (cs ++ [c]) (vs ++ chgCells c s)
  | [], vs, h => by
    have : vs = [] := h
    subst this
    exact ⟨s, [], rfl, hs, rfl⟩
  | d :: cs, vs, ⟨t, r, h1, h2, h3⟩ => ⟨t, r ++ chgCells c s, by rw [h1]; rfl, h2, h3.snoc hs⟩
theorem flen_modify {fs : List FileA} {n : Nat} {f : FileA} {g : FileA → FileA} (hn : fs[n]? = some f) (hl : ∀ i, flen fs i ≤ 2 ^ 20) (hg : (g f).now.length ≤ 2 ^ 20) : ∀ i, flen (fs.modify n g) i ≤ 2 ^ 20 := by
  intro i
  have hi := hl i
  unfold flen at hi ⊢
  rw [List.getElem?_modify]
  by_cases e : n = i
  · subst e; rw [hn]; simpa using hg
  · cases hfi : fs[i]? with
    | none => simp
    | some f' => rw [hfi] at hi; simpa [e] using hi
end Go.Disk
namespace Go.Proofs
open Go Go.Fx Go.Disk
set_option linter.unusedVariables false
set_option maxRecDepth 20000

theorem change_ok {H : Heap} {C : Col} {k : Nat} {x : FsX} {D : Disk} {u n fb : Nat} {f : FileA} {c : Chg} {sl : SlV} {K : Value → Heap → Prop} (hk : k ≠ 0) (h : FsAt H C k x D u)
    (hb : x.fbs[n]? = some fb) (hn : D.files[n]? = some f) (hc : ChOk c f.now) (hsl : ByI H C sl c.b) (hlen : (c.app f.now).length ≤ 2 ^ 20)
    (hD : DirOk D.files.length D.seen) (hl : ∀ n, flen D.files n ≤ 2 ^ 20) (ha : D.acts < 2 ^ 40) (hr : f.row.length ≤ 2 ^ 40) (hf : D.fuse < 2 ^ 63) (hdd : D.dead = false)
    (hK : ∀ H' C', IsFS H' C' k x.p (D.chgBy n c).blow → Ev (own k) H C H' C' → K (.int .i64 (if D.fuse = 1 then 13 else 0)) H') :
    Fn 50 [.pointer (some ⟨x.p, 0, none⟩), .pointer (some ⟨fb, 0, none⟩), .agg ⟨chgCells c sl⟩] H K := by
  unfold chgCells
  refine F50_ok _ _ _ _ _ _ _ ?_
  unfold F50
  simp only [cellH_mk, cellO_some, add_mk, size_upd, upd_upd, one_int, one_bool, one_string, one_pointer, one_slice, one_map, one_func, st1_some, stN_nil, stN_cons, StV_mk, StO_some, Ld_some, RtI_mk, RtB_mk, RtS_mk, RtP_mk, RtL_mk, RtM_mk, RtA_mk, RtT_mk, NilC_some, New_eq, At_eq, Ck_true, Rt0_mk, BrB_true, BrB_false, Nat.zero_add, List.length_cons, List.length_nil, List.getElem?_cons_zero, List.getElem?_cons_succ, List.set_cons_zero, List.set_cons_succ, List.getD_cons_zero, List.getD_cons_succ, Option.isNone_some, Option.isNone_none, Go.Disk.fsO, Go.Disk.fileO, Bool.false_eq_true, eq_self, Nat.reduceAdd, Nat.reduceSub, Nat.reduceMul, Nat.reduceLT, Nat.reduceLeDiff, Nat.reduceEqDiff, Int.reduceNeg, Int.reduceEq, Int.reduceNe, Int.reduceBEq, Int.reduceBNe, Int.reduceLT, Int.reduceLE, Int.reduceGT, Int.reduceAdd, reduceIte, Bool.not_true, Bool.not_false, decide_true, decide_false, ne_eq, not_false_eq_true, not_true_eq_false, NewN_eq]
  rw [rowV_mk _ _ 0 3 (get_push_self _ _) (by simp)]
  simp only [List.drop_zero, List.take_succ_cons, List.take_zero]
  generalize hO : Obj.cells ⟨[.bool c.cut, .int .i64 (c.off : Int), .slice sl.1 sl.2.1 sl.2.2]⟩ 90 = o
  have hev1 := ev_push no H C o (0, 0)
  have h1 := h.ev hev1 (fun _ _ h => h) fun _ _ h => h
  have hsl1 := hsl.ev hev1 fun _ _ h => h
  have hnb : (H.push o)[H.size]? = some o := get_push_self _ _
  have hcb : setC C H.size (0, 0) H.size = (0, 0) := setC_self _ _ _
  generalize hH1 : H.push o = H1 at *
  generalize hC1 : setC C H.size (0, 0) = C1 at *
  obtain ⟨qc, s, nw, r, cells, hfb, hs, hnw, hrow, hch, hrl⟩ := h1.files.2.2.2 n fb f hb hn
  have hnl : f.now.length ≤ 2 ^ 20 := by
    have := hl n
    unfold flen at this
    rw [hn] at this
    exact this
  simp only [cellH_mk, cellO_some, add_mk, size_upd, upd_upd, one_int, one_bool, one_string, one_pointer, one_slice, one_map, one_func, st1_some, stN_nil, stN_cons, StV_mk, StO_some, Ld_some, RtI_mk, RtB_mk, RtS_mk, RtP_mk, RtL_mk, RtM_mk, RtA_mk, RtT_mk, NilC_some, New_eq, At_eq, Ck_true, Rt0_mk, BrB_true, BrB_false, Nat.zero_add, List.length_cons, List.length_nil, List.getElem?_cons_zero, List.getElem?_cons_succ, List.set_cons_zero, List.set_cons_succ, List.getD_cons_zero, List.getD_cons_succ, Option.isNone_some, Option.isNone_none, Go.Disk.fsO, Go.Disk.fileO, Bool.false_eq_true, eq_self, Nat.reduceAdd, Nat.reduceSub, Nat.reduceMul, Nat.reduceLT, Nat.reduceLeDiff, Nat.reduceEqDiff, Int.reduceNeg, Int.reduceEq, Int.reduceNe, Int.reduceBEq, Int.reduceBNe, Int.reduceLT, Int.reduceLE, Int.reduceGT, Int.reduceAdd, reduceIte, Bool.not_true, Bool.not_false, decide_true, decide_false, ne_eq, not_false_eq_true, not_true_eq_false, hfb]
  refine chgDo_ok (sl := sl) (s := nw) hsl1 hnw hc hnl fun s' H2 C2 hs' hev2 => ?_
  have hev2' : Ev (fileLab k n) H C H2 C2 := (hev1.trans hev2).mono fun _ h => h.elim
  have h2 := h1.ev hev2 (fun _ _ h => h) fun _ _ h => h
  have hfb2 := hev2.get hfb fun h => h
  have hqc2 := (hev2.colOf hfb).trans qc
  have hnb2 := hev2.get hnb fun h => h
  have hcb2 := (hev2.colOf hnb).trans hcb
  have hne : fb ≠ H.size := by
    intro e
    rw [e, hcb2] at hqc2
    exact hk (Prod.mk.inj hqc2).1.symm
  have hev3 : Ev (fileLab k n) H2 C2 (upd H2 fb (fileO s s' r)) C2 := (ev_upd hqc2 _).mono fun l h => .inl h
  have hfb3 : (upd H2 fb (fileO s s' r))[fb]? = some (fileO s s' r) := get_upd_of hfb2
  have hnb3 : (upd H2 fb (fileO s s' r))[H.size]? = some o := by rw [get_upd_ne _ hne]; exact hnb2
  have hrow3 := (hrow.ev hev2 fun h => h).ev (ev_upd hqc2 (fileO s s' r)) (by intro h; unfold at1 at h; have := (Prod.mk.inj h).2; omega)
  have hs3 := (hs.ev hev2 fun _ _ h => h).ev hev3 (fileLab_no0 hk)
  have hch3 := (hch.ev hev2 fun _ _ h => h).ev hev3 (fileLab_no0 hk)
  have hs'3 := hs'.ev hev3 (fileLab_no0 hk)
  have hsl3 := (hsl1.ev hev2 fun _ _ h => h).ev hev3 (fileLab_no0 hk)
  rw [← hO] at hnb3
  simp only [cellH_mk, cellO_some, add_mk, size_upd, upd_upd, one_int, one_bool, one_string, one_pointer, one_slice, one_map, one_func, st1_some, stN_nil, stN_cons, StV_mk, StO_some, Ld_some, RtI_mk, RtB_mk, RtS_mk, RtP_mk, RtL_mk, RtM_mk, RtA_mk, RtT_mk, NilC_some, New_eq, At_eq, Ck_true, Rt0_mk, BrB_true, BrB_false, Nat.zero_add, List.length_cons, List.length_nil, List.getElem?_cons_zero, List.getElem?_cons_succ, List.set_cons_zero, List.set_cons_succ, List.getD_cons_zero, List.getD_cons_succ, Option.isNone_some, Option.isNone_none, Go.Disk.fsO, Go.Disk.fileO, Bool.false_eq_true, eq_self, Nat.reduceAdd, Nat.reduceSub, Nat.reduceMul, Nat.reduceLT, Nat.reduceLeDiff, Nat.reduceEqDiff, Int.reduceNeg, Int.reduceEq, Int.reduceNe, Int.reduceBEq, Int.reduceBNe, Int.reduceLT, Int.reduceLE, Int.reduceGT, Int.reduceAdd, reduceIte, Bool.not_true, Bool.not_false, decide_true, decide_false, ne_eq, not_false_eq_true, not_true_eq_false, hfb2]
  unfold fileO at hev3 hfb3 hnb3 hrow3 hs3 hch3 hs'3 hsl3
  generalize hH3 : upd H2 fb _ = H3 at *
  simp only [cellH_mk, cellO_some, add_mk, size_upd, upd_upd, one_int, one_bool, one_string, one_pointer, one_slice, one_map, one_func, st1_some, stN_nil, stN_cons, StV_mk, StO_some, Ld_some, RtI_mk, RtB_mk, RtS_mk, RtP_mk, RtL_mk, RtM_mk, RtA_mk, RtT_mk, NilC_some, New_eq, At_eq, Ck_true, Rt0_mk, BrB_true, BrB_false, Nat.zero_add, List.length_cons, List.length_nil, List.getElem?_cons_zero, List.getElem?_cons_succ, List.set_cons_zero, List.set_cons_succ, List.getD_cons_zero, List.getD_cons_succ, Option.isNone_some, Option.isNone_none, Go.Disk.fsO, Go.Disk.fileO, Bool.false_eq_true, eq_self, Nat.reduceAdd, Nat.reduceSub, Nat.reduceMul, Nat.reduceLT, Nat.reduceLeDiff, Nat.reduceEqDiff, Int.reduceNeg, Int.reduceEq, Int.reduceNe, Int.reduceBEq, Int.reduceBNe, Int.reduceLT, Int.reduceLE, Int.reduceGT, Int.reduceAdd, reduceIte, Bool.not_true, Bool.not_false, decide_true, decide_false, ne_eq, not_false_eq_true, not_true_eq_false, hfb3]
  rw [rowV_mk _ _ 0 3 hnb3 (by simp)]
  simp only [List.drop_zero, List.take_succ_cons, List.take_zero]
  simp only [cellH_mk, cellO_some, add_mk, size_upd, upd_upd, one_int, one_bool, one_string, one_pointer, one_slice, one_map, one_func, st1_some, stN_nil, stN_cons, StV_mk, StO_some, Ld_some, RtI_mk, RtB_mk, RtS_mk, RtP_mk, RtL_mk, RtM_mk, RtA_mk, RtT_mk, NilC_some, New_eq, At_eq, Ck_true, Rt0_mk, BrB_true, BrB_false, Nat.zero_add, List.length_cons, List.length_nil, List.getElem?_cons_zero, List.getElem?_cons_succ, List.set_cons_zero, List.set_cons_succ, List.getD_cons_zero, List.getD_cons_succ, Option.isNone_some, Option.isNone_none, Go.Disk.fsO, Go.Disk.fileO, Bool.false_eq_true, eq_self, Nat.reduceAdd, Nat.reduceSub, Nat.reduceMul, Nat.reduceLT, Nat.reduceLeDiff, Nat.reduceEqDiff, Int.reduceNeg, Int.reduceEq, Int.reduceNe, Int.reduceBEq, Int.reduceBNe, Int.reduceLT, Int.reduceLE, Int.reduceGT, Int.reduceAdd, reduceIte, Bool.not_true, Bool.not_false, decide_true, decide_false, ne_eq, not_false_eq_true, not_true_eq_false]
  refine build_oneK und80 tyf90 (by rfl) (by rfl) (by omega) (by omega) ?_
  have hev4 := ev_push no H3 C2 (.cells (Value.cells (.agg ⟨[.bool c.cut, .int .i64 (c.off : Int), .slice sl.1 sl.2.1 sl.2.2]⟩)) 90) (0, 0)
  have hsrc := SrcH_one (s := 3) (get_push_self H3 (.cells (Value.cells (.agg ⟨[.bool c.cut, .int .i64 (c.off : Int), .slice sl.1 sl.2.1 sl.2.2]⟩)) 90)) rfl
  generalize hH4 : H3.push _ = H4 at *
  generalize hC4 : setC C2 H3.size (0, 0) = C4 at *
  have hfb4 := hev4.get hfb3 fun h => h
  have hqc4 := (hev4.colOf hfb3).trans hqc2
  have hrow4 := hrow3.ev hev4 fun h => h
  simp only [cellH_mk, cellO_some, add_mk, size_upd, upd_upd, one_int, one_bool, one_string, one_pointer, one_slice, one_map, one_func, st1_some, stN_nil, stN_cons, StV_mk, StO_some, Ld_some, RtI_mk, RtB_mk, RtS_mk, RtP_mk, RtL_mk, RtM_mk, RtA_mk, RtT_mk, NilC_some, New_eq, At_eq, Ck_true, Rt0_mk, BrB_true, BrB_false, Nat.zero_add, List.length_cons, List.length_nil, List.getElem?_cons_zero, List.getElem?_cons_succ, List.set_cons_zero, List.set_cons_succ, List.getD_cons_zero, List.getD_cons_succ, Option.isNone_some, Option.isNone_none, Go.Disk.fsO, Go.Disk.fileO, Bool.false_eq_true, eq_self, Nat.reduceAdd, Nat.reduceSub, Nat.reduceMul, Nat.reduceLT, Nat.reduceLeDiff, Nat.reduceEqDiff, Int.reduceNeg, Int.reduceEq, Int.reduceNe, Int.reduceBEq, Int.reduceBNe, Int.reduceLT, Int.reduceLE, Int.reduceGT, Int.reduceAdd, reduceIte, Bool.not_true, Bool.not_false, decide_true, decide_false, ne_eq, not_false_eq_true, not_true_eq_false, hfb4]
  have hone : ∀ v ∈ chgCells c sl, v.oneCell = true := by
    intro v hv
    simp only [chgCells, List.mem_cons, List.not_mem_nil, or_false] at hv
    rcases hv with rfl | rfl | rfl <;> rfl
  refine app_ownK (C := C4) (lab := (k, 7 + 2 * n)) (new := chgCells c sl) und80 und80 (.inl ⟨_, rfl⟩) tyf90 (by rfl) hsrc (by rfl) hone hrow4 (by rw [hrl]; omega) (by rw [hrl]; omega) fun a' c' H5 C5 hrow5 hev5 _ => ?_
  have hev45 : Ev (fileLab k n) H3 C2 H5 C5 := (hev4.mono fun _ h => h.elim).trans (hev5.mono fun _ h => .inr h)
  have hfb5 := hev5.get hfb4 (by rw [hqc4]; intro h; unfold at1 at h; have := (Prod.mk.inj h).2; omega)
  have hqc5 := (hev5.colOf hfb4).trans hqc4
  simp only [cellH_mk, cellO_some, add_mk, size_upd, upd_upd, one_int, one_bool, one_string, one_pointer, one_slice, one_map, one_func, st1_some, stN_nil, stN_cons, StV_mk, StO_some, Ld_some, RtI_mk, RtB_mk, RtS_mk, RtP_mk, RtL_mk, RtM_mk, RtA_mk, RtT_mk, NilC_some, New_eq, At_eq, Ck_true, Rt0_mk, BrB_true, BrB_false, Nat.zero_add, List.length_cons, List.length_nil, List.getElem?_cons_zero, List.getElem?_cons_succ, List.set_cons_zero, List.set_cons_succ, List.getD_cons_zero, List.getD_cons_succ, Option.isNone_some, Option.isNone_none, Go.Disk.fsO, Go.Disk.fileO, Bool.false_eq_true, eq_self, Nat.reduceAdd, Nat.reduceSub, Nat.reduceMul, Nat.reduceLT, Nat.reduceLeDiff, Nat.reduceEqDiff, Int.reduceNeg, Int.reduceEq, Int.reduceNe, Int.reduceBEq, Int.reduceBNe, Int.reduceLT, Int.reduceLE, Int.reduceGT, Int.reduceAdd, reduceIte, Bool.not_true, Bool.not_false, decide_true, decide_false, ne_eq, not_false_eq_true, not_true_eq_false, hfb5]
  have hev6 : Ev (fileLab k n) H5 C5 (upd H5 fb (fileO s s' (a', r.2.1 + 1, c'))) C5 := (ev_upd hqc5 _).mono fun l h => .inl h
  have hev56 := hev45.trans hev6
  have hF : FileAt (upd H5 fb (fileO s s' (a', r.2.1 + 1, c'))) C5 k n fb { f with now := c.app f.now, row := f.row ++ [c] } :=
    ⟨hqc5, s, s', (a', r.2.1 + 1, c'), _, get_upd_of hfb5, hs3.ev hev56 (fileLab_no0 hk), hs'3.ev hev56 (fileLab_no0 hk),
      hrow5.ev (ev_upd hqc5 _) (by intro h; unfold at1 at h; have := (Prod.mk.inj h).2; omega), (hch3.ev hev56 (fileLab_no0 hk)).snoc (hsl3.ev hev56 (fileLab_no0 hk)), by rw [hrl]; simp⟩
  have hevA : Ev (fileLab k n) H C (upd H5 fb (fileO s s' (a', r.2.1 + 1, c'))) C5 := hev2'.trans (hev3.trans hev56)
  have hA : FsAt (upd H5 fb (fileO s s' (a', r.2.1 + 1, c'))) C5 k x (D.chgBy n c) u := by
    have e : x.r (D.chgBy n c) u = x.r D u := by simp [FsX.r, Disk.chgBy]
    exact ⟨(hevA.colOf h.hp).trans h.cp, by rw [e]; exact hevA.get h.hp (by rw [h.cp]; exact fileLab_lt (by omega)), h.files.set hk hevA hF hb hn, h.sure.ev hevA (fileLab_lt (by omega)), h.seen.ev hevA (fileLab_lt (by omega)), h.row.ev hevA (fileLab_lt (by omega))⟩
  unfold fileO at hA hevA
  refine count_ok (x := x) (D := D.chgBy n c) hk hA (by show DirOk (D.files.modify _ _).length _; rw [List.length_modify]; exact hD) (flen_modify hn hl hlen) fun H7 C7 h7 hev7 => ?_
  simp only [cellH_mk, cellO_some, add_mk, size_upd, upd_upd, one_int, one_bool, one_string, one_pointer, one_slice, one_map, one_func, st1_some, stN_nil, stN_cons, StV_mk, StO_some, Ld_some, RtI_mk, RtB_mk, RtS_mk, RtP_mk, RtL_mk, RtM_mk, RtA_mk, RtT_mk, NilC_some, New_eq, At_eq, Ck_true, Rt0_mk, BrB_true, BrB_false, Nat.zero_add, List.length_cons, List.length_nil, List.getElem?_cons_zero, List.getElem?_cons_succ, List.set_cons_zero, List.set_cons_succ, List.getD_cons_zero, List.getD_cons_succ, Option.isNone_some, Option.isNone_none, Go.Disk.fsO, Go.Disk.fileO, Bool.false_eq_true, eq_self, Nat.reduceAdd, Nat.reduceSub, Nat.reduceMul, Nat.reduceLT, Nat.reduceLeDiff, Nat.reduceEqDiff, Int.reduceNeg, Int.reduceEq, Int.reduceNe, Int.reduceBEq, Int.reduceBNe, Int.reduceLT, Int.reduceLE, Int.reduceGT, Int.reduceAdd, reduceIte, Bool.not_true, Bool.not_false, decide_true, decide_false, ne_eq, not_false_eq_true, not_true_eq_false]
  refine end_ok (x := x) (D := D.chgBy n c) hk h7 ha hf hdd fun H8 h8 hev8 => ?_
  simp only [cellH_mk, cellO_some, add_mk, size_upd, upd_upd, one_int, one_bool, one_string, one_pointer, one_slice, one_map, one_func, st1_some, stN_nil, stN_cons, StV_mk, StO_some, Ld_some, RtI_mk, RtB_mk, RtS_mk, RtP_mk, RtL_mk, RtM_mk, RtA_mk, RtT_mk, NilC_some, New_eq, At_eq, Ck_true, Rt0_mk, BrB_true, BrB_false, Nat.zero_add, List.length_cons, List.length_nil, List.getElem?_cons_zero, List.getElem?_cons_succ, List.set_cons_zero, List.set_cons_succ, List.getD_cons_zero, List.getD_cons_succ, Option.isNone_some, Option.isNone_none, Go.Disk.fsO, Go.Disk.fileO, Bool.false_eq_true, eq_self, Nat.reduceAdd, Nat.reduceSub, Nat.reduceMul, Nat.reduceLT, Nat.reduceLeDiff, Nat.reduceEqDiff, Int.reduceNeg, Int.reduceEq, Int.reduceNe, Int.reduceBEq, Int.reduceBNe, Int.reduceLT, Int.reduceLE, Int.reduceGT, Int.reduceAdd, reduceIte, Bool.not_true, Bool.not_false, decide_true, decide_false, ne_eq, not_false_eq_true, not_true_eq_false]
  refine hK H8 C7 ⟨x, rfl, h8⟩ ?_
  exact (hevA.mono fun _ => own_of_file).trans (hev7.trans (hev8.mono fun _ => own_of_at1))
end Go.Proofs

namespace Go.Fx
theorem SlR.src {H : Heap} {sz : Nat} {a : Option Addr} {l c : Nat} {cells : List Value} (h : SlR H sz a l c cells) : SrcH H sz (.slice a l c) l cells := by
  obtain ⟨h1, h2, h3⟩ := h
  unfold SrcH
  rcases h3 with rfl | ⟨b, off, cs, t, fz, rfl, hb, hle, hcs⟩
  · have : cells = [] := List.eq_nil_of_length_eq_zero (by simpa using h1)
    subst this
    cases a with
    | none => exact ⟨rfl, rfl⟩
    | some a => exact ⟨rfl, by rw [Nat.zero_mul]; rfl⟩
  · exact ⟨rfl, by rw [rowO_mk hb hle, hcs]⟩
end Go.Fx
namespace Go.Disk
open Go Go.Fx
theorem mem_le_sum : ∀ {l : List Nat} {n : Nat}, n ∈ l → n ≤ l.sum
  | x :: xs, n, h => by
    rcases List.mem_cons.1 h with rfl | h
    · simp
    · have := mem_le_sum h; simp; omega
theorem flen_used {D : Disk} {name : Name} {n : Nat} (h : dget name D.seen = some n) : flen D.files n ≤ D.used :=
  mem_le_sum (List.mem_map.2 ⟨_, dget_mem h, rfl⟩)
theorem nowOf_of {D : Disk} {n : Nat} {f : FileA} (h : D.files[n]? = some f) : nowOf D n = f.now := by unfold nowOf; rw [h]
theorem flen_of {fs : List FileA} {n : Nat} {f : FileA} (h : fs[n]? = some f) : flen fs n = f.now.length := by unfold flen; rw [h]
theorem withFile_dead {name : Name} {D : Disk} {go : Nat → Int × Disk} (h : D.dead = true) : withFile name D go = (13, D) := by unfold withFile; rw [if_pos h]
theorem withFile_none {name : Name} {D : Disk} {go : Nat → Int × Disk} (h : D.dead = false) (hg : dget name D.seen = none) : withFile name D go = (7, D) := by unfold withFile; rw [if_neg (by rw [h]; simp), hg]
theorem withFile_some {name : Name} {D : Disk} {go : Nat → Int × Disk} {n : Nat} (h : D.dead = false) (hg : dget name D.seen = some n) : withFile name D go = go n := by unfold withFile; rw [if_neg (by rw [h]; simp), hg]
end Go.Disk
namespace Go.Proofs
open Go Go.Fx Go.Disk
set_option linter.unusedVariables false
set_option maxRecDepth 20000

theorem Append_ok {H : Heap} {C : Col} {k p : Nat} {D : Disk} {name : Name} {a : Option Addr} {l c : Nat} {b : List UInt8} {K : Value → Heap → Prop} (hk : k ≠ 0) (h : IsFS H C k p D) (hD : DiskOk D) (ha : D.acts < 2 ^ 39)
    (hb : SlR H 1 a l c (byts b))
    (hK : ∀ H' C', IsFS H' C' k p (dAppend name b D).2 → Ev (own k) H C H' C' → K (.int .i64 (dAppend name b D).1) H') :
    Fn 16 [.pointer (some ⟨p, 0, none⟩), .string name, .slice a l c] H K := by
  obtain ⟨x, rfl, h⟩ := h
  refine F16_ok _ _ _ _ _ ?_
  unfold F16
  have hbl : l = b.length := by have := hb.1; rw [byts_len] at this; omega
  have hr := hD.room
  refine get_ok h hD.seen (fun hd => ?_) (fun hd hg => ?_) fun n fb f hd hg hfb hn => ?_
  · simp only [cellH_mk, cellO_some, add_mk, size_upd, upd_upd, one_int, one_bool, one_string, one_pointer, one_slice, one_map, one_func, st1_some, stN_nil, stN_cons, StV_mk, StO_some, Ld_some, RtI_mk, RtB_mk, RtS_mk, RtP_mk, RtL_mk, RtM_mk, RtA_mk, RtT_mk, NilC_some, New_eq, At_eq, Ck_true, Rt0_mk, BrB_true, BrB_false, Nat.zero_add, List.length_cons, List.length_nil, List.getElem?_cons_zero, List.getElem?_cons_succ, List.set_cons_zero, List.set_cons_succ, List.getD_cons_zero, List.getD_cons_succ, Option.isNone_some, Option.isNone_none, Go.Disk.fsO, Go.Disk.fileO, Bool.false_eq_true, eq_self, Nat.reduceAdd, Nat.reduceSub, Nat.reduceMul, Nat.reduceLT, Nat.reduceLeDiff, Nat.reduceEqDiff, Int.reduceNeg, Int.reduceEq, Int.reduceNe, Int.reduceBEq, Int.reduceBNe, Int.reduceLT, Int.reduceLE, Int.reduceGT, Int.reduceAdd, reduceIte, Bool.not_true, Bool.not_false, decide_true, decide_false, ne_eq, not_false_eq_true, not_true_eq_false]
    have e : dAppend name b D = (13, D) := withFile_dead hd
    rw [e] at hK
    exact hK H C ⟨x, rfl, h⟩ (Ev.refl _ _ _)
  · simp only [cellH_mk, cellO_some, add_mk, size_upd, upd_upd, one_int, one_bool, one_string, one_pointer, one_slice, one_map, one_func, st1_some, stN_nil, stN_cons, StV_mk, StO_some, Ld_some, RtI_mk, RtB_mk, RtS_mk, RtP_mk, RtL_mk, RtM_mk, RtA_mk, RtT_mk, NilC_some, New_eq, At_eq, Ck_true, Rt0_mk, BrB_true, BrB_false, Nat.zero_add, List.length_cons, List.length_nil, List.getElem?_cons_zero, List.getElem?_cons_succ, List.set_cons_zero, List.set_cons_succ, List.getD_cons_zero, List.getD_cons_succ, Option.isNone_some, Option.isNone_none, Go.Disk.fsO, Go.Disk.fileO, Bool.false_eq_true, eq_self, Nat.reduceAdd, Nat.reduceSub, Nat.reduceMul, Nat.reduceLT, Nat.reduceLeDiff, Nat.reduceEqDiff, Int.reduceNeg, Int.reduceEq, Int.reduceNe, Int.reduceBEq, Int.reduceBNe, Int.reduceLT, Int.reduceLE, Int.reduceGT, Int.reduceAdd, reduceIte, Bool.not_true, Bool.not_false, decide_true, decide_false, ne_eq, not_false_eq_true, not_true_eq_false]
    have e : dAppend name b D = (7, D) := withFile_none hd hg
    rw [e] at hK
    exact hK H C ⟨x, rfl, h⟩ (Ev.refl _ _ _)
  · obtain ⟨qc, s, nw, r, cells, hf, hs, hnw, hrow, hch, hrl⟩ := h.files.2.2.2 n fb f hfb hn
    have e : dAppend name b D = if 0 < b.length ∧ (b.length : Int) > (D.room : Int) - (D.used : Int) then (9, D) else D.fin (D.chgBy n ⟨false, (nowOf D n).length, b⟩) := withFile_some hd hg
    have hu := flen_used hg
    rw [flen_of hn] at hu
    have hp := h.hp
    rw [fsX] at hp
    have hnl := hnw.len
    have hus := used_le (flen_le hD) hD.seen.2.1
    rw [nowOf_of hn] at e
    simp only [cellH_mk, cellO_some, add_mk, size_upd, upd_upd, one_int, one_bool, one_string, one_pointer, one_slice, one_map, one_func, st1_some, stN_nil, stN_cons, StV_mk, StO_some, Ld_some, RtI_mk, RtB_mk, RtS_mk, RtP_mk, RtL_mk, RtM_mk, RtA_mk, RtT_mk, NilC_some, New_eq, At_eq, Ck_true, Rt0_mk, BrB_true, BrB_false, Nat.zero_add, List.length_cons, List.length_nil, List.getElem?_cons_zero, List.getElem?_cons_succ, List.set_cons_zero, List.set_cons_succ, List.getD_cons_zero, List.getD_cons_succ, Option.isNone_some, Option.isNone_none, Go.Disk.fsO, Go.Disk.fileO, Bool.false_eq_true, eq_self, Nat.reduceAdd, Nat.reduceSub, Nat.reduceMul, Nat.reduceLT, Nat.reduceLeDiff, Nat.reduceEqDiff, Int.reduceNeg, Int.reduceEq, Int.reduceNe, Int.reduceBEq, Int.reduceBNe, Int.reduceLT, Int.reduceLE, Int.reduceGT, Int.reduceAdd, reduceIte, Bool.not_true, Bool.not_false, decide_true, decide_false, ne_eq, not_false_eq_true, not_true_eq_false, hf, hp]
    -- the copy, and the change
    have fin : ¬ (0 < b.length ∧ (b.length : Int) > (D.room : Int) - (D.used : Int)) →
        Smk Try.prog (Builtin.append_ #[22, 22] 22 ⟨[.slice none 0 0, .slice a l c]⟩) H fun v H => RtL v fun a43 l43 c43 => Ck (cellH H (Addr.add ⟨fb, 0, none⟩ 1) = some (.slice nw.1 nw.2.1 nw.2.2)) (Fn 50 [.pointer (some ⟨x.p, 0, none⟩), .pointer (some ⟨fb, 0, none⟩), .agg ⟨[.bool false, .int .i64 ((nw.2.1 : Nat) : Int), .slice a43 l43 c43]⟩] H fun v H => RtI .i64 v fun i45 => K (.int .i64 i45) H) := by
      intro hno
      rw [e, if_neg hno] at hK
      have hsmall : f.now.length + b.length ≤ 2 ^ 20 := by
        by_cases h0 : 0 < b.length
        · have : ¬ ((b.length : Int) > (D.room : Int) - (D.used : Int)) := fun h => hno ⟨h0, h⟩
          omega
        · have := flen_le hD n
          rw [flen_of hn] at this
          omega
      refine app_copyK (C := C) (lab := (0, 0)) und22 und22 (.inl ⟨_, rfl⟩) tyf5 (by rfl) hb.src (by rw [byts_len, hbl]; omega) byts_one (by omega) (by omega) fun a2 c2 H2 C2 ho2 hev2 => ?_
      have hf2 := hev2.get hf fun h => h
      simp only [cellH_mk, cellO_some, add_mk, size_upd, upd_upd, one_int, one_bool, one_string, one_pointer, one_slice, one_map, one_func, st1_some, stN_nil, stN_cons, StV_mk, StO_some, Ld_some, RtI_mk, RtB_mk, RtS_mk, RtP_mk, RtL_mk, RtM_mk, RtA_mk, RtT_mk, NilC_some, New_eq, At_eq, Ck_true, Rt0_mk, BrB_true, BrB_false, Nat.zero_add, List.length_cons, List.length_nil, List.getElem?_cons_zero, List.getElem?_cons_succ, List.set_cons_zero, List.set_cons_succ, List.getD_cons_zero, List.getD_cons_succ, Option.isNone_some, Option.isNone_none, Go.Disk.fsO, Go.Disk.fileO, Bool.false_eq_true, eq_self, Nat.reduceAdd, Nat.reduceSub, Nat.reduceMul, Nat.reduceLT, Nat.reduceLeDiff, Nat.reduceEqDiff, Int.reduceNeg, Int.reduceEq, Int.reduceNe, Int.reduceBEq, Int.reduceBNe, Int.reduceLT, Int.reduceLE, Int.reduceGT, Int.reduceAdd, reduceIte, Bool.not_true, Bool.not_false, decide_true, decide_false, ne_eq, not_false_eq_true, not_true_eq_false, hf2]
      have hc : ChOk ⟨false, f.now.length, b⟩ f.now := ⟨Nat.le_refl _, by show b.length ≤ _; omega⟩
      have hal : (Chg.app ⟨false, f.now.length, b⟩ f.now).length ≤ 2 ^ 20 := by
        rw [Chg.app_len (Nat.le_refl _)]
        show Nat.max _ _ ≤ _
        exact Nat.max_le.2 ⟨hsmall, by omega⟩
      have hrw := (hD.files f (List.mem_of_getElem? hn)).2
      rw [hnl]
      refine change_ok (c := ⟨false, f.now.length, b⟩) (sl := (a2, l, c2)) hk (h.ev hev2 (fun _ _ h => h) fun _ _ h => h) hfb hn hc (ho2.imm rfl) hal hD.seen (flen_le hD) (by omega) (by omega) hD.fuse hd fun H3 C3 h3 hev3 => ?_
      simp only [cellH_mk, cellO_some, add_mk, size_upd, upd_upd, one_int, one_bool, one_string, one_pointer, one_slice, one_map, one_func, st1_some, stN_nil, stN_cons, StV_mk, StO_some, Ld_some, RtI_mk, RtB_mk, RtS_mk, RtP_mk, RtL_mk, RtM_mk, RtA_mk, RtT_mk, NilC_some, New_eq, At_eq, Ck_true, Rt0_mk, BrB_true, BrB_false, Nat.zero_add, List.length_cons, List.length_nil, List.getElem?_cons_zero, List.getElem?_cons_succ, List.set_cons_zero, List.set_cons_succ, List.getD_cons_zero, List.getD_cons_succ, Option.isNone_some, Option.isNone_none, Go.Disk.fsO, Go.Disk.fileO, Bool.false_eq_true, eq_self, Nat.reduceAdd, Nat.reduceSub, Nat.reduceMul, Nat.reduceLT, Nat.reduceLeDiff, Nat.reduceEqDiff, Int.reduceNeg, Int.reduceEq, Int.reduceNe, Int.reduceBEq, Int.reduceBNe, Int.reduceLT, Int.reduceLE, Int.reduceGT, Int.reduceAdd, reduceIte, Bool.not_true, Bool.not_false, decide_true, decide_false, ne_eq, not_false_eq_true, not_true_eq_false]
      exact hK H3 C3 h3 ((hev2.mono fun _ h => h.elim).trans hev3)
    have hw : IntKind.wrap .i64 ((D.room : Int) - (D.used : Int)) = (D.room : Int) - (D.used : Int) := w64 (by omega) (by omega)
    refine BrB_i (fun h0 => ?_) (fun h0 => ?_)
    · have h0 := of_decide_eq_true h0
      simp only [cellH_mk, cellO_some, add_mk, size_upd, upd_upd, one_int, one_bool, one_string, one_pointer, one_slice, one_map, one_func, st1_some, stN_nil, stN_cons, StV_mk, StO_some, Ld_some, RtI_mk, RtB_mk, RtS_mk, RtP_mk, RtL_mk, RtM_mk, RtA_mk, RtT_mk, NilC_some, New_eq, At_eq, Ck_true, Rt0_mk, BrB_true, BrB_false, Nat.zero_add, List.length_cons, List.length_nil, List.getElem?_cons_zero, List.getElem?_cons_succ, List.set_cons_zero, List.set_cons_succ, List.getD_cons_zero, List.getD_cons_succ, Option.isNone_some, Option.isNone_none, Go.Disk.fsO, Go.Disk.fileO, Bool.false_eq_true, eq_self, Nat.reduceAdd, Nat.reduceSub, Nat.reduceMul, Nat.reduceLT, Nat.reduceLeDiff, Nat.reduceEqDiff, Int.reduceNeg, Int.reduceEq, Int.reduceNe, Int.reduceBEq, Int.reduceBNe, Int.reduceLT, Int.reduceLE, Int.reduceGT, Int.reduceAdd, reduceIte, Bool.not_true, Bool.not_false, decide_true, decide_false, ne_eq, not_false_eq_true, not_true_eq_false, hp]
      rw [hw]
      refine BrB_i (fun h1 => ?_) (fun h1 => ?_)
      · have h1 := of_decide_eq_true h1
        rw [e, if_pos ⟨by omega, by omega⟩] at hK
        exact hK H C ⟨x, rfl, h⟩ (Ev.refl _ _ _)
      · have h1 := of_decide_eq_false h1
        simp only [cellH_mk, cellO_some, add_mk, size_upd, upd_upd, one_int, one_bool, one_string, one_pointer, one_slice, one_map, one_func, st1_some, stN_nil, stN_cons, StV_mk, StO_some, Ld_some, RtI_mk, RtB_mk, RtS_mk, RtP_mk, RtL_mk, RtM_mk, RtA_mk, RtT_mk, NilC_some, New_eq, At_eq, Ck_true, Rt0_mk, BrB_true, BrB_false, Nat.zero_add, List.length_cons, List.length_nil, List.getElem?_cons_zero, List.getElem?_cons_succ, List.set_cons_zero, List.set_cons_succ, List.getD_cons_zero, List.getD_cons_succ, Option.isNone_some, Option.isNone_none, Go.Disk.fsO, Go.Disk.fileO, Bool.false_eq_true, eq_self, Nat.reduceAdd, Nat.reduceSub, Nat.reduceMul, Nat.reduceLT, Nat.reduceLeDiff, Nat.reduceEqDiff, Int.reduceNeg, Int.reduceEq, Int.reduceNe, Int.reduceBEq, Int.reduceBNe, Int.reduceLT, Int.reduceLE, Int.reduceGT, Int.reduceAdd, reduceIte, Bool.not_true, Bool.not_false, decide_true, decide_false, ne_eq, not_false_eq_true, not_true_eq_false, hf]
        exact fin fun h => h1 (by omega)
    · have h0 := of_decide_eq_false h0
      simp only [cellH_mk, cellO_some, add_mk, size_upd, upd_upd, one_int, one_bool, one_string, one_pointer, one_slice, one_map, one_func, st1_some, stN_nil, stN_cons, StV_mk, StO_some, Ld_some, RtI_mk, RtB_mk, RtS_mk, RtP_mk, RtL_mk, RtM_mk, RtA_mk, RtT_mk, NilC_some, New_eq, At_eq, Ck_true, Rt0_mk, BrB_true, BrB_false, Nat.zero_add, List.length_cons, List.length_nil, List.getElem?_cons_zero, List.getElem?_cons_succ, List.set_cons_zero, List.set_cons_succ, List.getD_cons_zero, List.getD_cons_succ, Option.isNone_some, Option.isNone_none, Go.Disk.fsO, Go.Disk.fileO, Bool.false_eq_true, eq_self, Nat.reduceAdd, Nat.reduceSub, Nat.reduceMul, Nat.reduceLT, Nat.reduceLeDiff, Nat.reduceEqDiff, Int.reduceNeg, Int.reduceEq, Int.reduceNe, Int.reduceBEq, Int.reduceBNe, Int.reduceLT, Int.reduceLE, Int.reduceGT, Int.reduceAdd, reduceIte, Bool.not_true, Bool.not_false, decide_true, decide_false, ne_eq, not_false_eq_true, not_true_eq_false, hf]
      exact fin fun h => h0 (by omega)
end Go.Proofs

namespace Go.Proofs
open Go Go.Fx Go.Disk
set_option linter.unusedVariables false
set_option maxRecDepth 20000

theorem Write_ok {H : Heap} {C : Col} {k p : Nat} {D : Disk} {name : Name} {off : Int} {a : Option Addr} {l c : Nat} {b : List UInt8} {K : Value → Heap → Prop} (hk : k ≠ 0) (h : IsFS H C k p D) (hD : DiskOk D) (ha : D.acts < 2 ^ 39)
    (hb : SlR H 1 a l c (byts b)) (hbs : b.length < 2 ^ 60) (hoff : -2 ^ 63 ≤ off ∧ off < 2 ^ 63)
    (hK : ∀ H' C', IsFS H' C' k p (dWrite name off b D).2 → Ev (own k) H C H' C' → K (.int .i64 (dWrite name off b D).1) H') :
    Fn 23 [.pointer (some ⟨p, 0, none⟩), .string name, .int .i64 off, .slice a l c] H K := by
  obtain ⟨x, rfl, h⟩ := h
  refine F23_ok _ _ _ _ _ _ ?_
  unfold F23
  have hbl : l = b.length := by have := hb.1; rw [byts_len] at this; omega
  have hr := hD.room
  refine get_ok h hD.seen (fun hd => ?_) (fun hd hg => ?_) fun n fb f hd hg hfb hn => ?_
  · simp only [cellH_mk, cellO_some, add_mk, size_upd, upd_upd, one_int, one_bool, one_string, one_pointer, one_slice, one_map, one_func, st1_some, stN_nil, stN_cons, StV_mk, StO_some, Ld_some, RtI_mk, RtB_mk, RtS_mk, RtP_mk, RtL_mk, RtM_mk, RtA_mk, RtT_mk, NilC_some, New_eq, At_eq, Ck_true, Rt0_mk, BrB_true, BrB_false, Nat.zero_add, List.length_cons, List.length_nil, List.getElem?_cons_zero, List.getElem?_cons_succ, List.set_cons_zero, List.set_cons_succ, List.getD_cons_zero, List.getD_cons_succ, Option.isNone_some, Option.isNone_none, Go.Disk.fsO, Go.Disk.fileO, Bool.false_eq_true, eq_self, Nat.reduceAdd, Nat.reduceSub, Nat.reduceMul, Nat.reduceLT, Nat.reduceLeDiff, Nat.reduceEqDiff, Int.reduceNeg, Int.reduceEq, Int.reduceNe, Int.reduceBEq, Int.reduceBNe, Int.reduceLT, Int.reduceLE, Int.reduceGT, Int.reduceAdd, reduceIte, Bool.not_true, Bool.not_false, decide_true, decide_false, ne_eq, not_false_eq_true, not_true_eq_false]
    have e : dWrite name off b D = (13, D) := withFile_dead hd
    rw [e] at hK
    exact hK H C ⟨x, rfl, h⟩ (Ev.refl _ _ _)
  · simp only [cellH_mk, cellO_some, add_mk, size_upd, upd_upd, one_int, one_bool, one_string, one_pointer, one_slice, one_map, one_func, st1_some, stN_nil, stN_cons, StV_mk, StO_some, Ld_some, RtI_mk, RtB_mk, RtS_mk, RtP_mk, RtL_mk, RtM_mk, RtA_mk, RtT_mk, NilC_some, New_eq, At_eq, Ck_true, Rt0_mk, BrB_true, BrB_false, Nat.zero_add, List.length_cons, List.length_nil, List.getElem?_cons_zero, List.getElem?_cons_succ, List.set_cons_zero, List.set_cons_succ, List.getD_cons_zero, List.getD_cons_succ, Option.isNone_some, Option.isNone_none, Go.Disk.fsO, Go.Disk.fileO, Bool.false_eq_true, eq_self, Nat.reduceAdd, Nat.reduceSub, Nat.reduceMul, Nat.reduceLT, Nat.reduceLeDiff, Nat.reduceEqDiff, Int.reduceNeg, Int.reduceEq, Int.reduceNe, Int.reduceBEq, Int.reduceBNe, Int.reduceLT, Int.reduceLE, Int.reduceGT, Int.reduceAdd, reduceIte, Bool.not_true, Bool.not_false, decide_true, decide_false, ne_eq, not_false_eq_true, not_true_eq_false]
    have e : dWrite name off b D = (7, D) := withFile_none hd hg
    rw [e] at hK
    exact hK H C ⟨x, rfl, h⟩ (Ev.refl _ _ _)
  · obtain ⟨qc, s, nw, r, cells, hf, hs, hnw, hrow, hch, hrl⟩ := h.files.2.2.2 n fb f hfb hn
    have e := withFile_some (go := fun n => if off < 0 ∨ ((nowOf D n).length : Int) < off then (2, D)
      else if (b.length : Int) - ((nowOf D n).length - off) > 0 ∧ (b.length : Int) - ((nowOf D n).length - off) > (D.room : Int) - (D.used : Int) then (9, D)
      else D.fin (D.chgBy n ⟨false, off.toNat, b⟩)) hd hg
    replace e : dWrite name off b D = _ := e
    have hu := flen_used hg
    rw [flen_of hn] at hu
    have hp := h.hp
    rw [fsX] at hp
    have hnl := hnw.len
    have hus := used_le (flen_le hD) hD.seen.2.1
    have hfl := flen_le hD n
    rw [flen_of hn] at hfl
    simp only [nowOf_of hn] at e
    simp only [cellH_mk, cellO_some, add_mk, size_upd, upd_upd, one_int, one_bool, one_string, one_pointer, one_slice, one_map, one_func, st1_some, stN_nil, stN_cons, StV_mk, StO_some, Ld_some, RtI_mk, RtB_mk, RtS_mk, RtP_mk, RtL_mk, RtM_mk, RtA_mk, RtT_mk, NilC_some, New_eq, At_eq, Ck_true, Rt0_mk, BrB_true, BrB_false, Nat.zero_add, List.length_cons, List.length_nil, List.getElem?_cons_zero, List.getElem?_cons_succ, List.set_cons_zero, List.set_cons_succ, List.getD_cons_zero, List.getD_cons_succ, Option.isNone_some, Option.isNone_none, Go.Disk.fsO, Go.Disk.fileO, Bool.false_eq_true, eq_self, Nat.reduceAdd, Nat.reduceSub, Nat.reduceMul, Nat.reduceLT, Nat.reduceLeDiff, Nat.reduceEqDiff, Int.reduceNeg, Int.reduceEq, Int.reduceNe, Int.reduceBEq, Int.reduceBNe, Int.reduceLT, Int.reduceLE, Int.reduceGT, Int.reduceAdd, reduceIte, Bool.not_true, Bool.not_false, decide_true, decide_false, ne_eq, not_false_eq_true, not_true_eq_false, hf, hp]
    refine BrB_i (fun h0 => ?_) (fun h0 => ?_)
    · have h0 := of_decide_eq_true h0
      rw [e, if_pos (.inl h0)] at hK
      exact hK H C ⟨x, rfl, h⟩ (Ev.refl _ _ _)
    have h0 := of_decide_eq_false h0
    simp only [cellH_mk, cellO_some, add_mk, size_upd, upd_upd, one_int, one_bool, one_string, one_pointer, one_slice, one_map, one_func, st1_some, stN_nil, stN_cons, StV_mk, StO_some, Ld_some, RtI_mk, RtB_mk, RtS_mk, RtP_mk, RtL_mk, RtM_mk, RtA_mk, RtT_mk, NilC_some, New_eq, At_eq, Ck_true, Rt0_mk, BrB_true, BrB_false, Nat.zero_add, List.length_cons, List.length_nil, List.getElem?_cons_zero, List.getElem?_cons_succ, List.set_cons_zero, List.set_cons_succ, List.getD_cons_zero, List.getD_cons_succ, Option.isNone_some, Option.isNone_none, Go.Disk.fsO, Go.Disk.fileO, Bool.false_eq_true, eq_self, Nat.reduceAdd, Nat.reduceSub, Nat.reduceMul, Nat.reduceLT, Nat.reduceLeDiff, Nat.reduceEqDiff, Int.reduceNeg, Int.reduceEq, Int.reduceNe, Int.reduceBEq, Int.reduceBNe, Int.reduceLT, Int.reduceLE, Int.reduceGT, Int.reduceAdd, reduceIte, Bool.not_true, Bool.not_false, decide_true, decide_false, ne_eq, not_false_eq_true, not_true_eq_false, hf]
    refine BrB_i (fun h1 => ?_) (fun h1 => ?_)
    · have h1 := of_decide_eq_true h1
      rw [e, if_pos (.inr (by omega))] at hK
      exact hK H C ⟨x, rfl, h⟩ (Ev.refl _ _ _)
    have h1 := of_decide_eq_false h1
    rw [if_neg (by omega)] at e
    simp only [cellH_mk, cellO_some, add_mk, size_upd, upd_upd, one_int, one_bool, one_string, one_pointer, one_slice, one_map, one_func, st1_some, stN_nil, stN_cons, StV_mk, StO_some, Ld_some, RtI_mk, RtB_mk, RtS_mk, RtP_mk, RtL_mk, RtM_mk, RtA_mk, RtT_mk, NilC_some, New_eq, At_eq, Ck_true, Rt0_mk, BrB_true, BrB_false, Nat.zero_add, List.length_cons, List.length_nil, List.getElem?_cons_zero, List.getElem?_cons_succ, List.set_cons_zero, List.set_cons_succ, List.getD_cons_zero, List.getD_cons_succ, Option.isNone_some, Option.isNone_none, Go.Disk.fsO, Go.Disk.fileO, Bool.false_eq_true, eq_self, Nat.reduceAdd, Nat.reduceSub, Nat.reduceMul, Nat.reduceLT, Nat.reduceLeDiff, Nat.reduceEqDiff, Int.reduceNeg, Int.reduceEq, Int.reduceNe, Int.reduceBEq, Int.reduceBNe, Int.reduceLT, Int.reduceLE, Int.reduceGT, Int.reduceAdd, reduceIte, Bool.not_true, Bool.not_false, decide_true, decide_false, ne_eq, not_false_eq_true, not_true_eq_false, hf]
    have w1 : IntKind.wrap .i64 (((nw.2.1 : Nat) : Int) - off) = (f.now.length : Int) - off := by rw [hnl]; exact w64 (by omega) (by omega)
    have w2 : IntKind.wrap .i64 ((l : Int) - ((f.now.length : Int) - off)) = (b.length : Int) - ((f.now.length : Int) - off) := by rw [hbl]; exact w64 (by omega) (by omega)
    have w3 : IntKind.wrap .i64 ((D.room : Int) - (D.used : Int)) = (D.room : Int) - (D.used : Int) := w64 (by omega) (by omega)
    rw [w1, w2]
    -- the copy, and the change
    have fin : ¬ ((b.length : Int) - (f.now.length - off) > 0 ∧ (b.length : Int) - (f.now.length - off) > (D.room : Int) - (D.used : Int)) →
        Smk Try.prog (Builtin.append_ #[22, 22] 22 ⟨[.slice none 0 0, .slice a l c]⟩) H fun v H => RtL v fun a43 l43 c43 => Fn 50 [.pointer (some ⟨x.p, 0, none⟩), .pointer (some ⟨fb, 0, none⟩), .agg ⟨[.bool false, .int .i64 off, .slice a43 l43 c43]⟩] H fun v H => RtI .i64 v fun i45 => K (.int .i64 i45) H := by
      intro hno
      rw [e, if_neg hno] at hK
      have hsmall : off.toNat + b.length ≤ 2 ^ 20 := by
        by_cases h2 : (b.length : Int) - (f.now.length - off) > 0
        · have : ¬ ((b.length : Int) - (f.now.length - off) > (D.room : Int) - (D.used : Int)) := fun h => hno ⟨h2, h⟩
          omega
        · omega
      refine app_copyK (C := C) (lab := (0, 0)) und22 und22 (.inl ⟨_, rfl⟩) tyf5 (by rfl) hb.src (by rw [byts_len, hbl]; omega) byts_one (by omega) (by omega) fun a2 c2 H2 C2 ho2 hev2 => ?_
      simp only [cellH_mk, cellO_some, add_mk, size_upd, upd_upd, one_int, one_bool, one_string, one_pointer, one_slice, one_map, one_func, st1_some, stN_nil, stN_cons, StV_mk, StO_some, Ld_some, RtI_mk, RtB_mk, RtS_mk, RtP_mk, RtL_mk, RtM_mk, RtA_mk, RtT_mk, NilC_some, New_eq, At_eq, Ck_true, Rt0_mk, BrB_true, BrB_false, Nat.zero_add, List.length_cons, List.length_nil, List.getElem?_cons_zero, List.getElem?_cons_succ, List.set_cons_zero, List.set_cons_succ, List.getD_cons_zero, List.getD_cons_succ, Option.isNone_some, Option.isNone_none, Go.Disk.fsO, Go.Disk.fileO, Bool.false_eq_true, eq_self, Nat.reduceAdd, Nat.reduceSub, Nat.reduceMul, Nat.reduceLT, Nat.reduceLeDiff, Nat.reduceEqDiff, Int.reduceNeg, Int.reduceEq, Int.reduceNe, Int.reduceBEq, Int.reduceBNe, Int.reduceLT, Int.reduceLE, Int.reduceGT, Int.reduceAdd, reduceIte, Bool.not_true, Bool.not_false, decide_true, decide_false, ne_eq, not_false_eq_true, not_true_eq_false]
      have hof : off.toNat ≤ f.now.length := by omega
      have hc : ChOk ⟨false, off.toNat, b⟩ f.now := ⟨hof, by show b.length ≤ _; omega⟩
      have hal : (Chg.app ⟨false, off.toNat, b⟩ f.now).length ≤ 2 ^ 20 := by
        rw [Chg.app_len hof]
        show Nat.max _ _ ≤ _
        exact Nat.max_le.2 ⟨hsmall, by omega⟩
      have hrw := (hD.files f (List.mem_of_getElem? hn)).2
      have ho : off = (off.toNat : Int) := by omega
      rw [ho]
      refine change_ok (c := ⟨false, off.toNat, b⟩) (sl := (a2, l, c2)) hk (h.ev hev2 (fun _ _ h => h) fun _ _ h => h) hfb hn hc (ho2.imm rfl) hal hD.seen (flen_le hD) (by omega) (by omega) hD.fuse hd fun H3 C3 h3 hev3 => ?_
      simp only [cellH_mk, cellO_some, add_mk, size_upd, upd_upd, one_int, one_bool, one_string, one_pointer, one_slice, one_map, one_func, st1_some, stN_nil, stN_cons, StV_mk, StO_some, Ld_some, RtI_mk, RtB_mk, RtS_mk, RtP_mk, RtL_mk, RtM_mk, RtA_mk, RtT_mk, NilC_some, New_eq, At_eq, Ck_true, Rt0_mk, BrB_true, BrB_false, Nat.zero_add, List.length_cons, List.length_nil, List.getElem?_cons_zero, List.getElem?_cons_succ, List.set_cons_zero, List.set_cons_succ, List.getD_cons_zero, List.getD_cons_succ, Option.isNone_some, Option.isNone_none, Go.Disk.fsO, Go.Disk.fileO, Bool.false_eq_true, eq_self, Nat.reduceAdd, Nat.reduceSub, Nat.reduceMul, Nat.reduceLT, Nat.reduceLeDiff, Nat.reduceEqDiff, Int.reduceNeg, Int.reduceEq, Int.reduceNe, Int.reduceBEq, Int.reduceBNe, Int.reduceLT, Int.reduceLE, Int.reduceGT, Int.reduceAdd, reduceIte, Bool.not_true, Bool.not_false, decide_true, decide_false, ne_eq, not_false_eq_true, not_true_eq_false]
      exact hK H3 C3 h3 ((hev2.mono fun _ h => h.elim).trans hev3)
    refine BrB_i (fun h2 => ?_) (fun h2 => ?_)
    · have h2 := of_decide_eq_true h2
      simp only [cellH_mk, cellO_some, add_mk, size_upd, upd_upd, one_int, one_bool, one_string, one_pointer, one_slice, one_map, one_func, st1_some, stN_nil, stN_cons, StV_mk, StO_some, Ld_some, RtI_mk, RtB_mk, RtS_mk, RtP_mk, RtL_mk, RtM_mk, RtA_mk, RtT_mk, NilC_some, New_eq, At_eq, Ck_true, Rt0_mk, BrB_true, BrB_false, Nat.zero_add, List.length_cons, List.length_nil, List.getElem?_cons_zero, List.getElem?_cons_succ, List.set_cons_zero, List.set_cons_succ, List.getD_cons_zero, List.getD_cons_succ, Option.isNone_some, Option.isNone_none, Go.Disk.fsO, Go.Disk.fileO, Bool.false_eq_true, eq_self, Nat.reduceAdd, Nat.reduceSub, Nat.reduceMul, Nat.reduceLT, Nat.reduceLeDiff, Nat.reduceEqDiff, Int.reduceNeg, Int.reduceEq, Int.reduceNe, Int.reduceBEq, Int.reduceBNe, Int.reduceLT, Int.reduceLE, Int.reduceGT, Int.reduceAdd, reduceIte, Bool.not_true, Bool.not_false, decide_true, decide_false, ne_eq, not_false_eq_true, not_true_eq_false, hp]
      rw [w3]
      refine BrB_i (fun h3 => ?_) (fun h3 => ?_)
      · have h3 := of_decide_eq_true h3
        rw [e, if_pos ⟨h2, h3⟩] at hK
        exact hK H C ⟨x, rfl, h⟩ (Ev.refl _ _ _)
      · have h3 := of_decide_eq_false h3
        exact fin fun h => h3 h.2
    · have h2 := of_decide_eq_false h2
      exact fin fun h => h2 h.1

theorem Cut_ok {H : Heap} {C : Col} {k p : Nat} {D : Disk} {name : Name} {off : Int} {K : Value → Heap → Prop} (hk : k ≠ 0) (h : IsFS H C k p D) (hD : DiskOk D) (ha : D.acts < 2 ^ 39)
    (hK : ∀ H' C', IsFS H' C' k p (dCut name off D).2 → Ev (own k) H C H' C' → K (.int .i64 (dCut name off D).1) H') :
    Fn 58 [.pointer (some ⟨p, 0, none⟩), .string name, .int .i64 off] H K := by
  obtain ⟨x, rfl, h⟩ := h
  refine F58_ok _ _ _ ?_
  unfold F58
  refine get_ok h hD.seen (fun hd => ?_) (fun hd hg => ?_) fun n fb f hd hg hfb hn => ?_
  · simp only [cellH_mk, cellO_some, add_mk, size_upd, upd_upd, one_int, one_bool, one_string, one_pointer, one_slice, one_map, one_func, st1_some, stN_nil, stN_cons, StV_mk, StO_some, Ld_some, RtI_mk, RtB_mk, RtS_mk, RtP_mk, RtL_mk, RtM_mk, RtA_mk, RtT_mk, NilC_some, New_eq, At_eq, Ck_true, Rt0_mk, BrB_true, BrB_false, Nat.zero_add, List.length_cons, List.length_nil, List.getElem?_cons_zero, List.getElem?_cons_succ, List.set_cons_zero, List.set_cons_succ, List.getD_cons_zero, List.getD_cons_succ, Option.isNone_some, Option.isNone_none, Go.Disk.fsO, Go.Disk.fileO, Bool.false_eq_true, eq_self, Nat.reduceAdd, Nat.reduceSub, Nat.reduceMul, Nat.reduceLT, Nat.reduceLeDiff, Nat.reduceEqDiff, Int.reduceNeg, Int.reduceEq, Int.reduceNe, Int.reduceBEq, Int.reduceBNe, Int.reduceLT, Int.reduceLE, Int.reduceGT, Int.reduceAdd, reduceIte, Bool.not_true, Bool.not_false, decide_true, decide_false, ne_eq, not_false_eq_true, not_true_eq_false]
    have e : dCut name off D = (13, D) := withFile_dead hd
    rw [e] at hK
    exact hK H C ⟨x, rfl, h⟩ (Ev.refl _ _ _)
  · simp only [cellH_mk, cellO_some, add_mk, size_upd, upd_upd, one_int, one_bool, one_string, one_pointer, one_slice, one_map, one_func, st1_some, stN_nil, stN_cons, StV_mk, StO_some, Ld_some, RtI_mk, RtB_mk, RtS_mk, RtP_mk, RtL_mk, RtM_mk, RtA_mk, RtT_mk, NilC_some, New_eq, At_eq, Ck_true, Rt0_mk, BrB_true, BrB_false, Nat.zero_add, List.length_cons, List.length_nil, List.getElem?_cons_zero, List.getElem?_cons_succ, List.set_cons_zero, List.set_cons_succ, List.getD_cons_zero, List.getD_cons_succ, Option.isNone_some, Option.isNone_none, Go.Disk.fsO, Go.Disk.fileO, Bool.false_eq_true, eq_self, Nat.reduceAdd, Nat.reduceSub, Nat.reduceMul, Nat.reduceLT, Nat.reduceLeDiff, Nat.reduceEqDiff, Int.reduceNeg, Int.reduceEq, Int.reduceNe, Int.reduceBEq, Int.reduceBNe, Int.reduceLT, Int.reduceLE, Int.reduceGT, Int.reduceAdd, reduceIte, Bool.not_true, Bool.not_false, decide_true, decide_false, ne_eq, not_false_eq_true, not_true_eq_false]
    have e : dCut name off D = (7, D) := withFile_none hd hg
    rw [e] at hK
    exact hK H C ⟨x, rfl, h⟩ (Ev.refl _ _ _)
  · obtain ⟨qc, s, nw, r, cells, hf, hs, hnw, hrow, hch, hrl⟩ := h.files.2.2.2 n fb f hfb hn
    have e := withFile_some (go := fun n => if off < 0 ∨ ((nowOf D n).length : Int) < off then (2, D) else D.fin (D.chgBy n ⟨true, off.toNat, []⟩)) hd hg
    replace e : dCut name off D = _ := e
    have hnl := hnw.len
    have hfl := flen_le hD n
    rw [flen_of hn] at hfl
    simp only [nowOf_of hn] at e
    simp only [cellH_mk, cellO_some, add_mk, size_upd, upd_upd, one_int, one_bool, one_string, one_pointer, one_slice, one_map, one_func, st1_some, stN_nil, stN_cons, StV_mk, StO_some, Ld_some, RtI_mk, RtB_mk, RtS_mk, RtP_mk, RtL_mk, RtM_mk, RtA_mk, RtT_mk, NilC_some, New_eq, At_eq, Ck_true, Rt0_mk, BrB_true, BrB_false, Nat.zero_add, List.length_cons, List.length_nil, List.getElem?_cons_zero, List.getElem?_cons_succ, List.set_cons_zero, List.set_cons_succ, List.getD_cons_zero, List.getD_cons_succ, Option.isNone_some, Option.isNone_none, Go.Disk.fsO, Go.Disk.fileO, Bool.false_eq_true, eq_self, Nat.reduceAdd, Nat.reduceSub, Nat.reduceMul, Nat.reduceLT, Nat.reduceLeDiff, Nat.reduceEqDiff, Int.reduceNeg, Int.reduceEq, Int.reduceNe, Int.reduceBEq, Int.reduceBNe, Int.reduceLT, Int.reduceLE, Int.reduceGT, Int.reduceAdd, reduceIte, Bool.not_true, Bool.not_false, decide_true, decide_false, ne_eq, not_false_eq_true, not_true_eq_false, hf]
    refine BrB_i (fun h0 => ?_) (fun h0 => ?_)
    · have h0 := of_decide_eq_true h0
      rw [e, if_pos (.inl h0)] at hK
      exact hK H C ⟨x, rfl, h⟩ (Ev.refl _ _ _)
    have h0 := of_decide_eq_false h0
    simp only [cellH_mk, cellO_some, add_mk, size_upd, upd_upd, one_int, one_bool, one_string, one_pointer, one_slice, one_map, one_func, st1_some, stN_nil, stN_cons, StV_mk, StO_some, Ld_some, RtI_mk, RtB_mk, RtS_mk, RtP_mk, RtL_mk, RtM_mk, RtA_mk, RtT_mk, NilC_some, New_eq, At_eq, Ck_true, Rt0_mk, BrB_true, BrB_false, Nat.zero_add, List.length_cons, List.length_nil, List.getElem?_cons_zero, List.getElem?_cons_succ, List.set_cons_zero, List.set_cons_succ, List.getD_cons_zero, List.getD_cons_succ, Option.isNone_some, Option.isNone_none, Go.Disk.fsO, Go.Disk.fileO, Bool.false_eq_true, eq_self, Nat.reduceAdd, Nat.reduceSub, Nat.reduceMul, Nat.reduceLT, Nat.reduceLeDiff, Nat.reduceEqDiff, Int.reduceNeg, Int.reduceEq, Int.reduceNe, Int.reduceBEq, Int.reduceBNe, Int.reduceLT, Int.reduceLE, Int.reduceGT, Int.reduceAdd, reduceIte, Bool.not_true, Bool.not_false, decide_true, decide_false, ne_eq, not_false_eq_true, not_true_eq_false, hf]
    refine BrB_i (fun h1 => ?_) (fun h1 => ?_)
    · have h1 := of_decide_eq_true h1
      rw [e, if_pos (.inr (by omega))] at hK
      exact hK H C ⟨x, rfl, h⟩ (Ev.refl _ _ _)
    have h1 := of_decide_eq_false h1
    rw [e, if_neg (by omega)] at hK
    have ho : off = (off.toNat : Int) := by omega
    have hof : off.toNat ≤ f.now.length := by omega
    have hrw := (hD.files f (List.mem_of_getElem? hn)).2
    rw [ho]
    refine change_ok (c := ⟨true, off.toNat, []⟩) (sl := (none, 0, 0)) hk h hfb hn ⟨hof, by simp⟩ (SlI.nil _ _ _) (by rw [Chg.app_len hof]; show off.toNat ≤ _; omega) hD.seen (flen_le hD) (by omega) (by omega) hD.fuse hd fun H3 C3 h3 hev3 => ?_
    simp only [cellH_mk, cellO_some, add_mk, size_upd, upd_upd, one_int, one_bool, one_string, one_pointer, one_slice, one_map, one_func, st1_some, stN_nil, stN_cons, StV_mk, StO_some, Ld_some, RtI_mk, RtB_mk, RtS_mk, RtP_mk, RtL_mk, RtM_mk, RtA_mk, RtT_mk, NilC_some, New_eq, At_eq, Ck_true, Rt0_mk, BrB_true, BrB_false, Nat.zero_add, List.length_cons, List.length_nil, List.getElem?_cons_zero, List.getElem?_cons_succ, List.set_cons_zero, List.set_cons_succ, List.getD_cons_zero, List.getD_cons_succ, Option.isNone_some, Option.isNone_none, Go.Disk.fsO, Go.Disk.fileO, Bool.false_eq_true, eq_self, Nat.reduceAdd, Nat.reduceSub, Nat.reduceMul, Nat.reduceLT, Nat.reduceLeDiff, Nat.reduceEqDiff, Int.reduceNeg, Int.reduceEq, Int.reduceNe, Int.reduceBEq, Int.reduceBNe, Int.reduceLT, Int.reduceLE, Int.reduceGT, Int.reduceAdd, reduceIte, Bool.not_true, Bool.not_false, decide_true, decide_false, ne_eq, not_false_eq_true, not_true_eq_false]
    exact hK H3 C3 h3 hev3
end Go.Proofs

namespace Go.Fx
open Go
theorem SlR.row {H : Heap} {sz : Nat} {a : Option Addr} {l c : Nat} {cells : List Value} (h : SlR H sz a l c cells) {i : Nat} (hi : i < l) {K : Addr → Prop}
    (hK : ∀ e, rowV H e sz = some (.agg ⟨(cells.drop (i * sz)).take sz⟩) → (∃ b off, e = ⟨b, off, none⟩ ∧ ∀ j, j < sz → cellH H ⟨b, off + j, none⟩ = cells[i * sz + j]?) → K e) : Idx a l (i : Int) sz K := by
  obtain ⟨h1, h2, h3⟩ := h
  rcases h3 with h0 | ⟨b, off, cs, t, fz, rfl, hb, hle, hcs⟩
  · omega
  · have hm : i * sz + sz ≤ l * sz := by
      have := Nat.mul_le_mul_right sz (show i + 1 ≤ l from hi)
      rw [Nat.add_mul, Nat.one_mul] at this
      exact this
    refine Idx_i (by omega) (by omega) ?_
    rw [Int.toNat_natCast]
    refine hK _ ?_ ⟨b, off + i * sz, rfl, fun j hj => ?_⟩
    · rw [rowV_mk H b (off + i * sz) sz hb (by omega)]
      congr 3
      rw [← hcs, List.drop_take, List.take_take, List.drop_drop]
      congr 1
      omega
    · rw [cellH_mk, hb, cellO_some, ← hcs, List.getElem?_take, if_pos (by omega), List.getElem?_drop]
      congr 1
      omega
theorem SlR.cell {H : Heap} {a : Option Addr} {l c : Nat} {cells : List Value} (h : SlR H 1 a l c cells) {i : Nat} (hi : i < l) {v : Value} (hv : cells[i]? = some v) {K : Addr → Prop} (hK : ∀ e, cellH H e = some v → K e) : Idx a l (i : Int) 1 K :=
  h.row hi fun e _ ⟨b, off, he, hc⟩ => hK e (by
    have := hc 0 (by omega)
    rw [Nat.mul_one, Nat.add_zero, Nat.add_zero, hv] at this
    rw [he]; exact this)
end Go.Fx
namespace Go.Proofs
open Go Go.Fx Go.Disk
set_option linter.unusedVariables false
set_option maxRecDepth 20000

theorem isName_ok {H : Heap} {C : Col} {s : ByteArray} {K : Value → Heap → Prop} (hs : s.size < 2 ^ 62) (hK : ∀ H' C', Ev no H C H' C' → K (.bool (isNm s)) H') : Fn 47 [.string s] H K := by
  refine F47_ok _ ?_
  unfold F47
  refine conv_bytes (ds := .string) und9 und22 und5 (C := C) fun a c H1 hev hsl => ?_
  simp only [cellH_mk, cellO_some, add_mk, size_upd, upd_upd, one_int, one_bool, one_string, one_pointer, one_slice, one_map, one_func, st1_some, stN_nil, stN_cons, StV_mk, StO_some, Ld_some, RtI_mk, RtB_mk, RtS_mk, RtP_mk, RtL_mk, RtM_mk, RtA_mk, RtT_mk, NilC_some, New_eq, At_eq, Ck_true, Rt0_mk, BrB_true, BrB_false, Nat.zero_add, List.length_cons, List.length_nil, List.getElem?_cons_zero, List.getElem?_cons_succ, List.set_cons_zero, List.set_cons_succ, List.getD_cons_zero, List.getD_cons_succ, Option.isNone_some, Option.isNone_none, Go.Disk.fsO, Go.Disk.fileO, Bool.false_eq_true, eq_self, Nat.reduceAdd, Nat.reduceSub, Nat.reduceMul, Nat.reduceLT, Nat.reduceLeDiff, Nat.reduceEqDiff, Int.reduceNeg, Int.reduceEq, Int.reduceNe, Int.reduceBEq, Int.reduceBNe, Int.reduceLT, Int.reduceLE, Int.reduceGT, Int.reduceAdd, reduceIte, Bool.not_true, Bool.not_false, decide_true, decide_false, ne_eq, not_false_eq_true, not_true_eq_false]
  have hr := hsl.r
  have hlen : s.data.toList.length = s.size := Array.length_toList
  refine ⟨fun i H' => H' = H1 ∧ ∃ m : Nat, i = (m : Int) ∧ m ≤ s.size ∧ ∀ j, j < m → (s.data.toList[j]?).all nmByte = true, fun i _ => s.size - i.toNat, ⟨rfl, 0, rfl, by omega, fun j hj => absurd hj (by omega)⟩, ?_⟩
  rintro fr i H' ⟨rfl, m, rfl, hm, hall⟩
  simp only [cellH_mk, cellO_some, add_mk, size_upd, upd_upd, one_int, one_bool, one_string, one_pointer, one_slice, one_map, one_func, st1_some, stN_nil, stN_cons, StV_mk, StO_some, Ld_some, RtI_mk, RtB_mk, RtS_mk, RtP_mk, RtL_mk, RtM_mk, RtA_mk, RtT_mk, NilC_some, New_eq, At_eq, Ck_true, Rt0_mk, BrB_true, BrB_false, Nat.zero_add, List.length_cons, List.length_nil, List.getElem?_cons_zero, List.getElem?_cons_succ, List.set_cons_zero, List.set_cons_succ, List.getD_cons_zero, List.getD_cons_succ, Option.isNone_some, Option.isNone_none, Go.Disk.fsO, Go.Disk.fileO, Bool.false_eq_true, eq_self, Nat.reduceAdd, Nat.reduceSub, Nat.reduceMul, Nat.reduceLT, Nat.reduceLeDiff, Nat.reduceEqDiff, Int.reduceNeg, Int.reduceEq, Int.reduceNe, Int.reduceBEq, Int.reduceBNe, Int.reduceLT, Int.reduceLE, Int.reduceGT, Int.reduceAdd, reduceIte, Bool.not_true, Bool.not_false, decide_true, decide_false, ne_eq, not_false_eq_true, not_true_eq_false]
  have hname : isNm s = (s.data.toList.all nmByte && decide (1 ≤ s.size) && decide (s.size ≤ 32)) := by
    unfold isNm
    rw [ByteArray.toList_eq]
  refine BrB_i (fun h => ?_) (fun h => ?_)
  · have h := of_decide_eq_true h
    have hlt : m < s.data.toList.length := by omega
    have hget : s.data.toList[m]? = some s.data.toList[m] := List.getElem?_eq_getElem hlt
    generalize hx : s.data.toList[m] = x at hget
    refine hr.cell (by omega) (v := .int .u8 x.toNat) (by unfold byts; rw [List.getElem?_map, hget]; rfl) fun e he => ?_
    simp only [cellH_mk, cellO_some, add_mk, size_upd, upd_upd, one_int, one_bool, one_string, one_pointer, one_slice, one_map, one_func, st1_some, stN_nil, stN_cons, StV_mk, StO_some, Ld_some, RtI_mk, RtB_mk, RtS_mk, RtP_mk, RtL_mk, RtM_mk, RtA_mk, RtT_mk, NilC_some, New_eq, At_eq, Ck_true, Rt0_mk, BrB_true, BrB_false, Nat.zero_add, List.length_cons, List.length_nil, List.getElem?_cons_zero, List.getElem?_cons_succ, List.set_cons_zero, List.set_cons_succ, List.getD_cons_zero, List.getD_cons_succ, Option.isNone_some, Option.isNone_none, Go.Disk.fsO, Go.Disk.fileO, Bool.false_eq_true, eq_self, Nat.reduceAdd, Nat.reduceSub, Nat.reduceMul, Nat.reduceLT, Nat.reduceLeDiff, Nat.reduceEqDiff, Int.reduceNeg, Int.reduceEq, Int.reduceNe, Int.reduceBEq, Int.reduceBNe, Int.reduceLT, Int.reduceLE, Int.reduceGT, Int.reduceAdd, reduceIte, Bool.not_true, Bool.not_false, decide_true, decide_false, ne_eq, not_false_eq_true, not_true_eq_false, he]
    refine ⟨fun b H2 => H2 = H' ∧ b = nmByte x, ?_, ?_⟩
    · rintro fr2 b H2 ⟨rfl, rfl⟩
      refine BrB_i (fun hb => ?_) (fun hb => ?_)
      · rw [w64 (by omega) (by omega)]
        refine ⟨⟨rfl, m + 1, by omega, by omega, fun j hj => ?_⟩, ?_⟩
        · by_cases e : j = m
          · subst e; rw [hget]; exact hb
          · exact hall j (by omega)
        · show s.size - ((m : Int) + 1).toNat < s.size - ((m : Nat) : Int).toNat
          omega
      · have : isNm s = false := by
          rw [hname]
          have : s.data.toList.all nmByte = false := by
            rw [List.all_eq_false]
            exact ⟨x, List.mem_of_getElem? hget, by rw [hb]; simp⟩
          rw [this]; rfl
        rw [← this]
        exact hK _ _ hev
    · repeat' (refine BrB_i (fun h => ?_) (fun h => ?_))
      all_goals
        refine ⟨rfl, ?_⟩
        rw [Bool.eq_iff_iff]
        unfold nmByte
        simp only [decide_eq_true_eq, decide_eq_false_iff_not, beq_iff_eq, beq_eq_false_iff_ne, ne_eq, Bool.or_eq_true, Bool.and_eq_true] at *
        omega
  · have h := of_decide_eq_false h
    have hm2 : m = s.size := by omega
    have hall2 : s.data.toList.all nmByte = true := by
      rw [List.all_eq_true]
      intro x hx
      obtain ⟨j, hj, rfl⟩ := List.mem_iff_getElem.1 hx
      have := hall j (by omega)
      rw [List.getElem?_eq_getElem hj] at this
      exact this
    rw [hall2, Bool.true_and] at hname
    refine BrB_i (fun h => ?_) (fun h => ?_)
    · have h := of_decide_eq_true h
      have e : decide ((((s.size : Nat) : Int) : Int) ≤ 32) = isNm s := by
        rw [hname, Bool.eq_iff_iff]
        simp only [decide_eq_true_eq, Bool.and_eq_true]
        omega
      rw [e]
      exact hK _ _ hev
    · have h := of_decide_eq_false h
      have e : isNm s = false := by
        rw [hname, decide_eq_false (by omega)]; rfl
      rw [← e]
      exact hK _ _ hev
end Go.Proofs

namespace Go.Proofs
open Go Go.Fx Go.Disk
set_option linter.unusedVariables false
set_option maxRecDepth 20000

theorem Rename_ok {H : Heap} {C : Col} {k p : Nat} {D : Disk} {src dst : Name} {K : Value → Heap → Prop} (hk : k ≠ 0) (h : IsFS H C k p D) (hD : DiskOk D) (ha : D.acts < 2 ^ 39) (hs : dst.size < 2 ^ 62)
    (hK : ∀ H' C', IsFS H' C' k p (dRename src dst D).2 → Ev (own k) H C H' C' → K (.int .i64 (dRename src dst D).1) H') :
    Fn 19 [.pointer (some ⟨p, 0, none⟩), .string src, .string dst] H K := by
  obtain ⟨x, rfl, h⟩ := h
  refine F19_ok _ _ _ ?_
  unfold F19
  refine get_ok h hD.seen (fun hd => ?_) (fun hd hg => ?_) fun n fb f hd hg hfb hn => ?_
  · simp only [cellH_mk, cellO_some, add_mk, size_upd, upd_upd, one_int, one_bool, one_string, one_pointer, one_slice, one_map, one_func, st1_some, stN_nil, stN_cons, StV_mk, StO_some, Ld_some, RtI_mk, RtB_mk, RtS_mk, RtP_mk, RtL_mk, RtM_mk, RtA_mk, RtT_mk, NilC_some, New_eq, At_eq, Ck_true, Rt0_mk, BrB_true, BrB_false, Nat.zero_add, List.length_cons, List.length_nil, List.getElem?_cons_zero, List.getElem?_cons_succ, List.set_cons_zero, List.set_cons_succ, List.getD_cons_zero, List.getD_cons_succ, Option.isNone_some, Option.isNone_none, Go.Disk.fsO, Go.Disk.fileO, Bool.false_eq_true, eq_self, Nat.reduceAdd, Nat.reduceSub, Nat.reduceMul, Nat.reduceLT, Nat.reduceLeDiff, Nat.reduceEqDiff, Int.reduceNeg, Int.reduceEq, Int.reduceNe, Int.reduceBEq, Int.reduceBNe, Int.reduceLT, Int.reduceLE, Int.reduceGT, Int.reduceAdd, reduceIte, Bool.not_true, Bool.not_false, decide_true, decide_false, ne_eq, not_false_eq_true, not_true_eq_false]
    have e : dRename src dst D = (13, D) := withFile_dead hd
    rw [e] at hK
    exact hK H C ⟨x, rfl, h⟩ (Ev.refl _ _ _)
  · simp only [cellH_mk, cellO_some, add_mk, size_upd, upd_upd, one_int, one_bool, one_string, one_pointer, one_slice, one_map, one_func, st1_some, stN_nil, stN_cons, StV_mk, StO_some, Ld_some, RtI_mk, RtB_mk, RtS_mk, RtP_mk, RtL_mk, RtM_mk, RtA_mk, RtT_mk, NilC_some, New_eq, At_eq, Ck_true, Rt0_mk, BrB_true, BrB_false, Nat.zero_add, List.length_cons, List.length_nil, List.getElem?_cons_zero, List.getElem?_cons_succ, List.set_cons_zero, List.set_cons_succ, List.getD_cons_zero, List.getD_cons_succ, Option.isNone_some, Option.isNone_none, Go.Disk.fsO, Go.Disk.fileO, Bool.false_eq_true, eq_self, Nat.reduceAdd, Nat.reduceSub, Nat.reduceMul, Nat.reduceLT, Nat.reduceLeDiff, Nat.reduceEqDiff, Int.reduceNeg, Int.reduceEq, Int.reduceNe, Int.reduceBEq, Int.reduceBNe, Int.reduceLT, Int.reduceLE, Int.reduceGT, Int.reduceAdd, reduceIte, Bool.not_true, Bool.not_false, decide_true, decide_false, ne_eq, not_false_eq_true, not_true_eq_false]
    have e : dRename src dst D = (7, D) := withFile_none hd hg
    rw [e] at hK
    exact hK H C ⟨x, rfl, h⟩ (Ev.refl _ _ _)
  · have e : dRename src dst D = if !isNm dst then (2, D) else D.fin (D.turnBy ⟨1, src, dst, 0⟩) := withFile_some hd hg
    simp only [cellH_mk, cellO_some, add_mk, size_upd, upd_upd, one_int, one_bool, one_string, one_pointer, one_slice, one_map, one_func, st1_some, stN_nil, stN_cons, StV_mk, StO_some, Ld_some, RtI_mk, RtB_mk, RtS_mk, RtP_mk, RtL_mk, RtM_mk, RtA_mk, RtT_mk, NilC_some, New_eq, At_eq, Ck_true, Rt0_mk, BrB_true, BrB_false, Nat.zero_add, List.length_cons, List.length_nil, List.getElem?_cons_zero, List.getElem?_cons_succ, List.set_cons_zero, List.set_cons_succ, List.getD_cons_zero, List.getD_cons_succ, Option.isNone_some, Option.isNone_none, Go.Disk.fsO, Go.Disk.fileO, Bool.false_eq_true, eq_self, Nat.reduceAdd, Nat.reduceSub, Nat.reduceMul, Nat.reduceLT, Nat.reduceLeDiff, Nat.reduceEqDiff, Int.reduceNeg, Int.reduceEq, Int.reduceNe, Int.reduceBEq, Int.reduceBNe, Int.reduceLT, Int.reduceLE, Int.reduceGT, Int.reduceAdd, reduceIte, Bool.not_true, Bool.not_false, decide_true, decide_false, ne_eq, not_false_eq_true, not_true_eq_false]
    refine isName_ok (C := C) hs fun H1 C1 hev1 => ?_
    simp only [cellH_mk, cellO_some, add_mk, size_upd, upd_upd, one_int, one_bool, one_string, one_pointer, one_slice, one_map, one_func, st1_some, stN_nil, stN_cons, StV_mk, StO_some, Ld_some, RtI_mk, RtB_mk, RtS_mk, RtP_mk, RtL_mk, RtM_mk, RtA_mk, RtT_mk, NilC_some, New_eq, At_eq, Ck_true, Rt0_mk, BrB_true, BrB_false, Nat.zero_add, List.length_cons, List.length_nil, List.getElem?_cons_zero, List.getElem?_cons_succ, List.set_cons_zero, List.set_cons_succ, List.getD_cons_zero, List.getD_cons_succ, Option.isNone_some, Option.isNone_none, Go.Disk.fsO, Go.Disk.fileO, Bool.false_eq_true, eq_self, Nat.reduceAdd, Nat.reduceSub, Nat.reduceMul, Nat.reduceLT, Nat.reduceLeDiff, Nat.reduceEqDiff, Int.reduceNeg, Int.reduceEq, Int.reduceNe, Int.reduceBEq, Int.reduceBNe, Int.reduceLT, Int.reduceLE, Int.reduceGT, Int.reduceAdd, reduceIte, Bool.not_true, Bool.not_false, decide_true, decide_false, ne_eq, not_false_eq_true, not_true_eq_false]
    have h1 := h.ev hev1 (fun _ _ h => h) fun _ _ h => h
    refine BrB_i (fun hb => ?_) (fun hb => ?_)
    · rw [e, if_pos hb] at hK
      exact hK H1 C1 ⟨x, rfl, h1⟩ (hev1.mono fun _ h => h.elim)
    · rw [e, if_neg (by rw [hb]; simp)] at hK
      have hm : MvOk D.files.length ⟨1, src, dst, 0⟩ D.seen := ⟨by show 1 ≤ 2; omega, fun h => (nomatch h), fun _ => by show dget src D.seen ≠ none; rw [hg]; simp⟩
      have ec : mvCells ⟨1, src, dst, 0⟩ = [.int .i64 1, .string src, .string dst, .int .i64 0] := rfl
      have hrw := hD.row
      rw [← ec]
      refine turn_ok hk h1 hD.seen.1 hm (hm.app hD.seen fun h => (nomatch h)) (flen_le hD) (by omega) (by omega) hD.fuse hd fun H2 C2 h2 hev2 => ?_
      simp only [cellH_mk, cellO_some, add_mk, size_upd, upd_upd, one_int, one_bool, one_string, one_pointer, one_slice, one_map, one_func, st1_some, stN_nil, stN_cons, StV_mk, StO_some, Ld_some, RtI_mk, RtB_mk, RtS_mk, RtP_mk, RtL_mk, RtM_mk, RtA_mk, RtT_mk, NilC_some, New_eq, At_eq, Ck_true, Rt0_mk, BrB_true, BrB_false, Nat.zero_add, List.length_cons, List.length_nil, List.getElem?_cons_zero, List.getElem?_cons_succ, List.set_cons_zero, List.set_cons_succ, List.getD_cons_zero, List.getD_cons_succ, Option.isNone_some, Option.isNone_none, Go.Disk.fsO, Go.Disk.fileO, Bool.false_eq_true, eq_self, Nat.reduceAdd, Nat.reduceSub, Nat.reduceMul, Nat.reduceLT, Nat.reduceLeDiff, Nat.reduceEqDiff, Int.reduceNeg, Int.reduceEq, Int.reduceNe, Int.reduceBEq, Int.reduceBNe, Int.reduceLT, Int.reduceLE, Int.reduceGT, Int.reduceAdd, reduceIte, Bool.not_true, Bool.not_false, decide_true, decide_false, ne_eq, not_false_eq_true, not_true_eq_false]
      exact hK H2 C2 h2 ((hev1.mono fun _ h => h.elim).trans hev2)

theorem Remove_ok {H : Heap} {C : Col} {k p : Nat} {D : Disk} {name : Name} {K : Value → Heap → Prop} (hk : k ≠ 0) (h : IsFS H C k p D) (hD : DiskOk D) (ha : D.acts < 2 ^ 39)
    (hK : ∀ H' C', IsFS H' C' k p (dRemove name D).2 → Ev (own k) H C H' C' → K (.int .i64 (dRemove name D).1) H') :
    Fn 59 [.pointer (some ⟨p, 0, none⟩), .string name] H K := by
  obtain ⟨x, rfl, h⟩ := h
  refine F59_ok _ _ ?_
  unfold F59
  refine get_ok h hD.seen (fun hd => ?_) (fun hd hg => ?_) fun n fb f hd hg hfb hn => ?_
  · simp only [cellH_mk, cellO_some, add_mk, size_upd, upd_upd, one_int, one_bool, one_string, one_pointer, one_slice, one_map, one_func, st1_some, stN_nil, stN_cons, StV_mk, StO_some, Ld_some, RtI_mk, RtB_mk, RtS_mk, RtP_mk, RtL_mk, RtM_mk, RtA_mk, RtT_mk, NilC_some, New_eq, At_eq, Ck_true, Rt0_mk, BrB_true, BrB_false, Nat.zero_add, List.length_cons, List.length_nil, List.getElem?_cons_zero, List.getElem?_cons_succ, List.set_cons_zero, List.set_cons_succ, List.getD_cons_zero, List.getD_cons_succ, Option.isNone_some, Option.isNone_none, Go.Disk.fsO, Go.Disk.fileO, Bool.false_eq_true, eq_self, Nat.reduceAdd, Nat.reduceSub, Nat.reduceMul, Nat.reduceLT, Nat.reduceLeDiff, Nat.reduceEqDiff, Int.reduceNeg, Int.reduceEq, Int.reduceNe, Int.reduceBEq, Int.reduceBNe, Int.reduceLT, Int.reduceLE, Int.reduceGT, Int.reduceAdd, reduceIte, Bool.not_true, Bool.not_false, decide_true, decide_false, ne_eq, not_false_eq_true, not_true_eq_false]
    have e : dRemove name D = (13, D) := withFile_dead hd
    rw [e] at hK
    exact hK H C ⟨x, rfl, h⟩ (Ev.refl _ _ _)
  · simp only [cellH_mk, cellO_some, add_mk, size_upd, upd_upd, one_int, one_bool, one_string, one_pointer, one_slice, one_map, one_func, st1_some, stN_nil, stN_cons, StV_mk, StO_some, Ld_some, RtI_mk, RtB_mk, RtS_mk, RtP_mk, RtL_mk, RtM_mk, RtA_mk, RtT_mk, NilC_some, New_eq, At_eq, Ck_true, Rt0_mk, BrB_true, BrB_false, Nat.zero_add, List.length_cons, List.length_nil, List.getElem?_cons_zero, List.getElem?_cons_succ, List.set_cons_zero, List.set_cons_succ, List.getD_cons_zero, List.getD_cons_succ, Option.isNone_some, Option.isNone_none, Go.Disk.fsO, Go.Disk.fileO, Bool.false_eq_true, eq_self, Nat.reduceAdd, Nat.reduceSub, Nat.reduceMul, Nat.reduceLT, Nat.reduceLeDiff, Nat.reduceEqDiff, Int.reduceNeg, Int.reduceEq, Int.reduceNe, Int.reduceBEq, Int.reduceBNe, Int.reduceLT, Int.reduceLE, Int.reduceGT, Int.reduceAdd, reduceIte, Bool.not_true, Bool.not_false, decide_true, decide_false, ne_eq, not_false_eq_true, not_true_eq_false]
    have e : dRemove name D = (7, D) := withFile_none hd hg
    rw [e] at hK
    exact hK H C ⟨x, rfl, h⟩ (Ev.refl _ _ _)
  · have e : dRemove name D = D.fin (D.turnBy ⟨2, name, str [], 0⟩) := withFile_some hd hg
    simp only [cellH_mk, cellO_some, add_mk, size_upd, upd_upd, one_int, one_bool, one_string, one_pointer, one_slice, one_map, one_func, st1_some, stN_nil, stN_cons, StV_mk, StO_some, Ld_some, RtI_mk, RtB_mk, RtS_mk, RtP_mk, RtL_mk, RtM_mk, RtA_mk, RtT_mk, NilC_some, New_eq, At_eq, Ck_true, Rt0_mk, BrB_true, BrB_false, Nat.zero_add, List.length_cons, List.length_nil, List.getElem?_cons_zero, List.getElem?_cons_succ, List.set_cons_zero, List.set_cons_succ, List.getD_cons_zero, List.getD_cons_succ, Option.isNone_some, Option.isNone_none, Go.Disk.fsO, Go.Disk.fileO, Bool.false_eq_true, eq_self, Nat.reduceAdd, Nat.reduceSub, Nat.reduceMul, Nat.reduceLT, Nat.reduceLeDiff, Nat.reduceEqDiff, Int.reduceNeg, Int.reduceEq, Int.reduceNe, Int.reduceBEq, Int.reduceBNe, Int.reduceLT, Int.reduceLE, Int.reduceGT, Int.reduceAdd, reduceIte, Bool.not_true, Bool.not_false, decide_true, decide_false, ne_eq, not_false_eq_true, not_true_eq_false]
    rw [e] at hK
    have hm : MvOk D.files.length ⟨2, name, str [], 0⟩ D.seen := ⟨by show 2 ≤ 2; omega, fun h => (nomatch h), fun _ => by show dget name D.seen ≠ none; rw [hg]; simp⟩
    have ec : mvCells ⟨2, name, str [], 0⟩ = [.int .i64 2, .string name, .string (str []), .int .i64 0] := rfl
    have hrw := hD.row
    rw [← ec]
    refine turn_ok hk h hD.seen.1 hm (hm.app hD.seen fun h => (nomatch h)) (flen_le hD) (by omega) (by omega) hD.fuse hd fun H2 C2 h2 hev2 => ?_
    simp only [cellH_mk, cellO_some, add_mk, size_upd, upd_upd, one_int, one_bool, one_string, one_pointer, one_slice, one_map, one_func, st1_some, stN_nil, stN_cons, StV_mk, StO_some, Ld_some, RtI_mk, RtB_mk, RtS_mk, RtP_mk, RtL_mk, RtM_mk, RtA_mk, RtT_mk, NilC_some, New_eq, At_eq, Ck_true, Rt0_mk, BrB_true, BrB_false, Nat.zero_add, List.length_cons, List.length_nil, List.getElem?_cons_zero, List.getElem?_cons_succ, List.set_cons_zero, List.set_cons_succ, List.getD_cons_zero, List.getD_cons_succ, Option.isNone_some, Option.isNone_none, Go.Disk.fsO, Go.Disk.fileO, Bool.false_eq_true, eq_self, Nat.reduceAdd, Nat.reduceSub, Nat.reduceMul, Nat.reduceLT, Nat.reduceLeDiff, Nat.reduceEqDiff, Int.reduceNeg, Int.reduceEq, Int.reduceNe, Int.reduceBEq, Int.reduceBNe, Int.reduceLT, Int.reduceLE, Int.reduceGT, Int.reduceAdd, reduceIte, Bool.not_true, Bool.not_false, decide_true, decide_false, ne_eq, not_false_eq_true, not_true_eq_false]
    exact hK H2 C2 h2 hev2

theorem Sync_ok {H : Heap} {C : Col} {k p : Nat} {D : Disk} {name : Name} {K : Value → Heap → Prop} (hk : k ≠ 0) (h : IsFS H C k p D) (hD : DiskOk D) (ha : D.acts < 2 ^ 39)
    (hK : ∀ H' C', IsFS H' C' k p (dSync name D).2 → Ev (own k) H C H' C' → K (.int .i64 (dSync name D).1) H') :
    Fn 17 [.pointer (some ⟨p, 0, none⟩), .string name] H K := by
  obtain ⟨x, rfl, h⟩ := h
  refine F17_ok _ _ ?_
  unfold F17
  refine get_ok h hD.seen (fun hd => ?_) (fun hd hg => ?_) fun n fb f hd hg hfb hn => ?_
  · simp only [cellH_mk, cellO_some, add_mk, size_upd, upd_upd, one_int, one_bool, one_string, one_pointer, one_slice, one_map, one_func, st1_some, stN_nil, stN_cons, StV_mk, StO_some, Ld_some, RtI_mk, RtB_mk, RtS_mk, RtP_mk, RtL_mk, RtM_mk, RtA_mk, RtT_mk, NilC_some, New_eq, At_eq, Ck_true, Rt0_mk, BrB_true, BrB_false, Nat.zero_add, List.length_cons, List.length_nil, List.getElem?_cons_zero, List.getElem?_cons_succ, List.set_cons_zero, List.set_cons_succ, List.getD_cons_zero, List.getD_cons_succ, Option.isNone_some, Option.isNone_none, Go.Disk.fsO, Go.Disk.fileO, Bool.false_eq_true, eq_self, Nat.reduceAdd, Nat.reduceSub, Nat.reduceMul, Nat.reduceLT, Nat.reduceLeDiff, Nat.reduceEqDiff, Int.reduceNeg, Int.reduceEq, Int.reduceNe, Int.reduceBEq, Int.reduceBNe, Int.reduceLT, Int.reduceLE, Int.reduceGT, Int.reduceAdd, reduceIte, Bool.not_true, Bool.not_false, decide_true, decide_false, ne_eq, not_false_eq_true, not_true_eq_false]
    have e : dSync name D = (13, D) := withFile_dead hd
    rw [e] at hK
    exact hK H C ⟨x, rfl, h⟩ (Ev.refl _ _ _)
  · simp only [cellH_mk, cellO_some, add_mk, size_upd, upd_upd, one_int, one_bool, one_string, one_pointer, one_slice, one_map, one_func, st1_some, stN_nil, stN_cons, StV_mk, StO_some, Ld_some, RtI_mk, RtB_mk, RtS_mk, RtP_mk, RtL_mk, RtM_mk, RtA_mk, RtT_mk, NilC_some, New_eq, At_eq, Ck_true, Rt0_mk, BrB_true, BrB_false, Nat.zero_add, List.length_cons, List.length_nil, List.getElem?_cons_zero, List.getElem?_cons_succ, List.set_cons_zero, List.set_cons_succ, List.getD_cons_zero, List.getD_cons_succ, Option.isNone_some, Option.isNone_none, Go.Disk.fsO, Go.Disk.fileO, Bool.false_eq_true, eq_self, Nat.reduceAdd, Nat.reduceSub, Nat.reduceMul, Nat.reduceLT, Nat.reduceLeDiff, Nat.reduceEqDiff, Int.reduceNeg, Int.reduceEq, Int.reduceNe, Int.reduceBEq, Int.reduceBNe, Int.reduceLT, Int.reduceLE, Int.reduceGT, Int.reduceAdd, reduceIte, Bool.not_true, Bool.not_false, decide_true, decide_false, ne_eq, not_false_eq_true, not_true_eq_false]
    have e : dSync name D = (7, D) := withFile_none hd hg
    rw [e] at hK
    exact hK H C ⟨x, rfl, h⟩ (Ev.refl _ _ _)
  · have e : dSync name D = if D.fuse = 1 then (13, D.blow) else (0, D.blow.syncBy n) := withFile_some hd hg
    simp only [cellH_mk, cellO_some, add_mk, size_upd, upd_upd, one_int, one_bool, one_string, one_pointer, one_slice, one_map, one_func, st1_some, stN_nil, stN_cons, StV_mk, StO_some, Ld_some, RtI_mk, RtB_mk, RtS_mk, RtP_mk, RtL_mk, RtM_mk, RtA_mk, RtT_mk, NilC_some, New_eq, At_eq, Ck_true, Rt0_mk, BrB_true, BrB_false, Nat.zero_add, List.length_cons, List.length_nil, List.getElem?_cons_zero, List.getElem?_cons_succ, List.set_cons_zero, List.set_cons_succ, List.getD_cons_zero, List.getD_cons_succ, Option.isNone_some, Option.isNone_none, Go.Disk.fsO, Go.Disk.fileO, Bool.false_eq_true, eq_self, Nat.reduceAdd, Nat.reduceSub, Nat.reduceMul, Nat.reduceLT, Nat.reduceLeDiff, Nat.reduceEqDiff, Int.reduceNeg, Int.reduceEq, Int.reduceNe, Int.reduceBEq, Int.reduceBNe, Int.reduceLT, Int.reduceLE, Int.reduceGT, Int.reduceAdd, reduceIte, Bool.not_true, Bool.not_false, decide_true, decide_false, ne_eq, not_false_eq_true, not_true_eq_false]
    refine fails_ok hk h (by omega) hD.fuse hd fun H1 h1 hev1 => ?_
    simp only [cellH_mk, cellO_some, add_mk, size_upd, upd_upd, one_int, one_bool, one_string, one_pointer, one_slice, one_map, one_func, st1_some, stN_nil, stN_cons, StV_mk, StO_some, Ld_some, RtI_mk, RtB_mk, RtS_mk, RtP_mk, RtL_mk, RtM_mk, RtA_mk, RtT_mk, NilC_some, New_eq, At_eq, Ck_true, Rt0_mk, BrB_true, BrB_false, Nat.zero_add, List.length_cons, List.length_nil, List.getElem?_cons_zero, List.getElem?_cons_succ, List.set_cons_zero, List.set_cons_succ, List.getD_cons_zero, List.getD_cons_succ, Option.isNone_some, Option.isNone_none, Go.Disk.fsO, Go.Disk.fileO, Bool.false_eq_true, eq_self, Nat.reduceAdd, Nat.reduceSub, Nat.reduceMul, Nat.reduceLT, Nat.reduceLeDiff, Nat.reduceEqDiff, Int.reduceNeg, Int.reduceEq, Int.reduceNe, Int.reduceBEq, Int.reduceBNe, Int.reduceLT, Int.reduceLE, Int.reduceGT, Int.reduceAdd, reduceIte, Bool.not_true, Bool.not_false, decide_true, decide_false, ne_eq, not_false_eq_true, not_true_eq_false]
    refine BrB_i (fun hb => ?_) (fun hb => ?_)
    · rw [e, if_pos (by simpa using hb)] at hK
      exact hK H1 C ⟨x, rfl, h1⟩ (hev1.mono fun _ => own_of_at1)
    · rw [e, if_neg (by simpa using hb)] at hK
      obtain ⟨qc, s, nw, r, cells, hf, hs, hnw, hrow, hch, hrl⟩ := h1.files.2.2.2 n fb f hfb hn
      have hnl := hnw.len
      have hfl := flen_le hD n
      rw [flen_of hn] at hfl
      simp only [cellH_mk, cellO_some, add_mk, size_upd, upd_upd, one_int, one_bool, one_string, one_pointer, one_slice, one_map, one_func, st1_some, stN_nil, stN_cons, StV_mk, StO_some, Ld_some, RtI_mk, RtB_mk, RtS_mk, RtP_mk, RtL_mk, RtM_mk, RtA_mk, RtT_mk, NilC_some, New_eq, At_eq, Ck_true, Rt0_mk, BrB_true, BrB_false, Nat.zero_add, List.length_cons, List.length_nil, List.getElem?_cons_zero, List.getElem?_cons_succ, List.set_cons_zero, List.set_cons_succ, List.getD_cons_zero, List.getD_cons_succ, Option.isNone_some, Option.isNone_none, Go.Disk.fsO, Go.Disk.fileO, Bool.false_eq_true, eq_self, Nat.reduceAdd, Nat.reduceSub, Nat.reduceMul, Nat.reduceLT, Nat.reduceLeDiff, Nat.reduceEqDiff, Int.reduceNeg, Int.reduceEq, Int.reduceNe, Int.reduceBEq, Int.reduceBNe, Int.reduceLT, Int.reduceLE, Int.reduceGT, Int.reduceAdd, reduceIte, Bool.not_true, Bool.not_false, decide_true, decide_false, ne_eq, not_false_eq_true, not_true_eq_false, hf]
      refine app_copyK (C := C) (lab := (0, 0)) und22 und22 (.inl ⟨_, rfl⟩) tyf5 (by rfl) hnw.src (by rw [byts_len, hnl]; omega) byts_one (by omega) (by omega) fun a2 c2 H2 C2 ho2 hev2 => ?_
      have hf2 := hev2.get hf fun h => h
      have hl2 := lt_of_get hf2
      have hqc2 := (hev2.colOf hf).trans qc
      simp only [cellH_mk, cellO_some, add_mk, size_upd, upd_upd, one_int, one_bool, one_string, one_pointer, one_slice, one_map, one_func, st1_some, stN_nil, stN_cons, StV_mk, StO_some, Ld_some, RtI_mk, RtB_mk, RtS_mk, RtP_mk, RtL_mk, RtM_mk, RtA_mk, RtT_mk, NilC_some, New_eq, At_eq, Ck_true, Rt0_mk, BrB_true, BrB_false, Nat.zero_add, List.length_cons, List.length_nil, List.getElem?_cons_zero, List.getElem?_cons_succ, List.set_cons_zero, List.set_cons_succ, List.getD_cons_zero, List.getD_cons_succ, Option.isNone_some, Option.isNone_none, Go.Disk.fsO, Go.Disk.fileO, Bool.false_eq_true, eq_self, Nat.reduceAdd, Nat.reduceSub, Nat.reduceMul, Nat.reduceLT, Nat.reduceLeDiff, Nat.reduceEqDiff, Int.reduceNeg, Int.reduceEq, Int.reduceNe, Int.reduceBEq, Int.reduceBNe, Int.reduceLT, Int.reduceLE, Int.reduceGT, Int.reduceAdd, reduceIte, Bool.not_true, Bool.not_false, decide_true, decide_false, ne_eq, not_false_eq_true, not_true_eq_false, hf2, get_upd_self, hl2]
      have hev3 : Ev (fileLab k n) H2 C2 (upd H2 fb (fileO (a2, nw.2.1, c2) nw (none, 0, 0))) C2 := (ev_upd hqc2 _).mono fun l h => .inl h
      have hev23 := (hev2.mono (S' := fileLab k n) fun _ h => h.elim).trans hev3
      have hF : FileAt (upd H2 fb (fileO (a2, nw.2.1, c2) nw (none, 0, 0))) C2 k n fb { f with sure := f.now, row := [] } :=
        ⟨hqc2, (a2, nw.2.1, c2), nw, (none, 0, 0), [], get_upd_of hf2, (show ByI H2 C2 (a2, nw.2.1, c2) f.now from ho2.imm rfl).ev hev3 (fileLab_no0 hk), (hnw.ev hev2 fun _ _ h => h).ev hev3 (fileLab_no0 hk), SlO.nil _ _ _ _ _, rfl, rfl⟩
      have hA : FsAt (upd H2 fb (fileO (a2, nw.2.1, c2) nw (none, 0, 0))) C2 k x (D.blow.syncBy n) D.used := by
        have e : x.r (D.blow.syncBy n) D.used = x.r D.blow D.used := by simp [FsX.r, Disk.syncBy]
        exact ⟨(hev23.colOf h1.hp).trans h1.cp, by rw [e]; exact hev23.get h1.hp (by rw [h1.cp]; exact fileLab_lt (by omega)), h1.files.set hk hev23 hF hfb hn, h1.sure.ev hev23 (fileLab_lt (by omega)), h1.seen.ev hev23 (fileLab_lt (by omega)), h1.row.ev hev23 (fileLab_lt (by omega))⟩
      have hu : (D.blow.syncBy n).used = D.used := by
        unfold Disk.used usedOf
        show (D.seen.map fun p => flen (D.files.modify n _) p.2).sum = _
        congr 2
        funext q
        unfold flen
        rw [List.getElem?_modify]
        cases D.files[q.2]? with
        | none => rfl
        | some f' => by_cases hq : n = q.2 <;> simp [hq]
      exact hK _ C2 ⟨x, rfl, by rw [hu]; exact hA⟩ ((hev1.mono fun _ => own_of_at1).trans (hev23.mono fun _ => own_of_file))
end Go.Proofs

namespace Go.Proofs
open Go Go.Fx Go.Disk
set_option linter.unusedVariables false
set_option maxRecDepth 20000

theorem twin_ok {H : Heap} {C : Col} {lab lab' : Lab} {m : Nat} {d : Dir} {K : Value → Heap → Prop} (h : DirAt H C lab m d)
    (hK : ∀ nb H' C', DirAt H' C' lab' nb d → Ev no H C H' C' → K (.map (some nb)) H') : Fn 52 [.map (some m)] H K := by
  refine F52_ok _ ?_
  unfold F52
  obtain ⟨hc, o, ho, kvs, hmo, hp⟩ := h
  have hlt := lt_of_get ho
  refine ⟨_, mapLen_rd und70 ho hmo, ?_⟩
  obtain ⟨k, hk, hfr⟩ := fresh_own C H.size
  simp only [cellH_mk, cellO_some, add_mk, size_upd, upd_upd, one_int, one_bool, one_string, one_pointer, one_slice, one_map, one_func, st1_some, stN_nil, stN_cons, StV_mk, StO_some, Ld_some, RtI_mk, RtB_mk, RtS_mk, RtP_mk, RtL_mk, RtM_mk, RtA_mk, RtT_mk, NilC_some, New_eq, At_eq, Ck_true, Rt0_mk, BrB_true, BrB_false, Nat.zero_add, List.length_cons, List.length_nil, List.getElem?_cons_zero, List.getElem?_cons_succ, List.set_cons_zero, List.set_cons_succ, List.getD_cons_zero, List.getD_cons_succ, Option.isNone_some, Option.isNone_none, Go.Disk.fsO, Go.Disk.fileO, Bool.false_eq_true, eq_self, Nat.reduceAdd, Nat.reduceSub, Nat.reduceMul, Nat.reduceLT, Nat.reduceLeDiff, Nat.reduceEqDiff, Int.reduceNeg, Int.reduceEq, Int.reduceNe, Int.reduceBEq, Int.reduceBNe, Int.reduceLT, Int.reduceLE, Int.reduceGT, Int.reduceAdd, reduceIte, Bool.not_true, Bool.not_false, decide_true, decide_false, ne_eq, not_false_eq_true, not_true_eq_false, NewN_eq]
  have hnd := MapIs.nodup hmo
  have hev1 := ev_push (own k) H C (.map ⟨[]⟩ 0) (k, 0)
  have hnb1 : (H.push (.map ⟨[]⟩ 0))[H.size]? = some (.map ⟨[]⟩ 0) := get_push_self _ _
  have ho1 : (H.push (.map ⟨[]⟩ 0))[m]? = some o := get_push_of ho
  have hcn1 : setC C H.size (k, 0) H.size = (k, 0) := setC_self _ _ _
  have hsz1 : H.size < (H.push (.map ⟨[]⟩ 0)).size := lt_of_get hnb1
  generalize hH1 : H.push (.map ⟨[]⟩ 0) = H1 at *
  generalize hC1 : setC C H.size (k, 0) = C1 at *
  refine rangeK und70 ho1 hmo fun o' hit => ?_
  refine ⟨_, rfl, ?_⟩
  have hev2 := ev_push (own k) H1 C1 o' (k, 1)
  have hnb2 : (H1.push o')[H.size]? = some (.map ⟨[]⟩ 0) := get_push_of hnb1
  have hci2 : setC C1 H1.size (k, 1) H1.size = (k, 1) := setC_self _ _ _
  have hcn2 : setC C1 H1.size (k, 1) H.size = (k, 0) := by rw [setC_ne (by omega)]; exact hcn1
  generalize hC2 : setC C1 H1.size (k, 1) = C2 at *
  refine ⟨fun H' => ∃ todo kvs', IterAt Value.string H' H1.size m kvs todo ∧ (∃ o', H'[H.size]? = some o' ∧ MapIs Value.string o' kvs') ∧ (kvs' ++ todo).Perm kvs ∧ Ev (own k) H C H' C2,
    fun H' => iterLeft H' H1.size, ⟨kvs, [], hit, ⟨_, hnb2, MapIs.made _⟩, List.Perm.refl _, hev1.trans hev2⟩, ?_⟩
  rintro fr H' ⟨todo, kvs', hI, ⟨on, hon, hmn⟩, hperm, hE⟩
  simp only [cellH_mk, cellO_some, add_mk, size_upd, upd_upd, one_int, one_bool, one_string, one_pointer, one_slice, one_map, one_func, st1_some, stN_nil, stN_cons, StV_mk, StO_some, Ld_some, RtI_mk, RtB_mk, RtS_mk, RtP_mk, RtL_mk, RtM_mk, RtA_mk, RtT_mk, NilC_some, New_eq, At_eq, Ck_true, Rt0_mk, BrB_true, BrB_false, Nat.zero_add, List.length_cons, List.length_nil, List.getElem?_cons_zero, List.getElem?_cons_succ, List.set_cons_zero, List.set_cons_succ, List.getD_cons_zero, List.getD_cons_succ, Option.isNone_some, Option.isNone_none, Go.Disk.fsO, Go.Disk.fileO, Bool.false_eq_true, eq_self, Nat.reduceAdd, Nat.reduceSub, Nat.reduceMul, Nat.reduceLT, Nat.reduceLeDiff, Nat.reduceEqDiff, Int.reduceNeg, Int.reduceEq, Int.reduceNe, Int.reduceBEq, Int.reduceBNe, Int.reduceLT, Int.reduceLE, Int.reduceGT, Int.reduceAdd, reduceIte, Bool.not_true, Bool.not_false, decide_true, decide_false, ne_eq, not_false_eq_true, not_true_eq_false]
  refine next_wp hI (fun ht => ?_) fun nm v l1 l2 o2 ht hI2 hent => ?_
  · subst ht
    rw [List.append_nil] at hperm
    refine hK H.size H' _ ⟨?_, on, hon, kvs', hmn, hperm.trans hp⟩ (hE.done hfr fun j => if j = 0 then lab' else (0, 0))
    rw [recol_at hcn2]; rfl
  · have hne := hI.ne
    have hne2 : H1.size ≠ H.size := by omega
    have hev3 : Ev (own k) H' C2 (upd H' H1.size o2) C2 := (ev_upd hci2 _).mono fun _ => own_of_at1
    have hon3 : (upd H' H1.size o2)[H.size]? = some on := by rw [get_upd_ne _ hne2]; exact hon
    have hsub : (nm, v) ∈ kvs := by
      obtain ⟨_, _, _, _, _, _, _, hs⟩ := hI
      exact hs.subset (by rw [ht]; simp)
    obtain ⟨i, rfl⟩ : ∃ i : Nat, v = .int .i64 ((i : Int) + 1) := by
      have := hp.mem_iff.1 hsub
      unfold dirK at this
      obtain ⟨q, _, he⟩ := List.mem_map.1 this
      cases he
      exact ⟨q.2, rfl⟩
    refine ⟨_, hent _ (get_upd_of hI.has.choose_spec) (get_upd_ne _ hne), ?_⟩
    simp only [cellH_mk, cellO_some, add_mk, size_upd, upd_upd, one_int, one_bool, one_string, one_pointer, one_slice, one_map, one_func, st1_some, stN_nil, stN_cons, StV_mk, StO_some, Ld_some, RtI_mk, RtB_mk, RtS_mk, RtP_mk, RtL_mk, RtM_mk, RtA_mk, RtT_mk, NilC_some, New_eq, At_eq, Ck_true, Rt0_mk, BrB_true, BrB_false, Nat.zero_add, List.length_cons, List.length_nil, List.getElem?_cons_zero, List.getElem?_cons_succ, List.set_cons_zero, List.set_cons_succ, List.getD_cons_zero, List.getD_cons_succ, Option.isNone_some, Option.isNone_none, Go.Disk.fsO, Go.Disk.fileO, Bool.false_eq_true, eq_self, Nat.reduceAdd, Nat.reduceSub, Nat.reduceMul, Nat.reduceLT, Nat.reduceLeDiff, Nat.reduceEqDiff, Int.reduceNeg, Int.reduceEq, Int.reduceNe, Int.reduceBEq, Int.reduceBNe, Int.reduceLT, Int.reduceLE, Int.reduceGT, Int.reduceAdd, reduceIte, Bool.not_true, Bool.not_false, decide_true, decide_false, ne_eq, not_false_eq_true, not_true_eq_false]
    refine mapUpdateK keyS und70 und9 hon3 hmn nm _ fun o4 ho4 => ?_
    have hnk : nm ∉ kvs'.map (·.1) := by
      have h1 : ((kvs' ++ todo).map (·.1)).Nodup := (hperm.map _).nodup_iff.2 hnd
      rw [ht, List.map_append, List.nodup_append] at h1
      intro hm
      exact h1.2.2 nm hm nm (by simp) rfl
    rw [ins_new hnk] at ho4
    have hI4 : IterAt Value.string (upd (upd H' H1.size o2) H.size o4) H1.size m kvs (l1 ++ l2) := hI2.keep (get_upd_ne _ (by omega)) (get_upd_ne _ (by omega))
    refine ⟨⟨l1 ++ l2, _, hI4, ⟨o4, get_upd_of hon3, ho4⟩, ?_, hE.trans (hev3.trans ((ev_upd hcn2 _).mono fun _ => own_of_at1))⟩, ?_⟩
    · refine List.Perm.trans ?_ hperm
      rw [ht, List.append_assoc]
      refine List.Perm.append_left _ ?_
      show ((nm, Value.int .i64 ((i : Int) + 1)) :: (l1 ++ l2)).Perm _
      exact List.perm_middle.symm
    · show iterLeft _ _ < iterLeft _ _
      rw [hI4.left, hI.left, ht]
      simp

theorem SyncDir_ok {H : Heap} {C : Col} {k p : Nat} {D : Disk} {K : Value → Heap → Prop} (hk : k ≠ 0) (h : IsFS H C k p D) (hD : DiskOk D) (ha : D.acts < 2 ^ 39)
    (hK : ∀ H' C', IsFS H' C' k p (dSyncDir D).2 → Ev (own k) H C H' C' → K (.int .i64 (dSyncDir D).1) H') :
    Fn 18 [.pointer (some ⟨p, 0, none⟩)] H K := by
  obtain ⟨x, rfl, h⟩ := h
  refine F18_ok _ ?_
  unfold F18
  refine ready_ok h.hp rfl ?_
  show RtI .i64 (.int .i64 (if D.dead = true then 13 else 0)) _
  unfold dSyncDir at hK
  cases hd : D.dead with
  | true =>
    rw [hd, if_pos rfl] at hK
    simp only [cellH_mk, cellO_some, add_mk, size_upd, upd_upd, one_int, one_bool, one_string, one_pointer, one_slice, one_map, one_func, st1_some, stN_nil, stN_cons, StV_mk, StO_some, Ld_some, RtI_mk, RtB_mk, RtS_mk, RtP_mk, RtL_mk, RtM_mk, RtA_mk, RtT_mk, NilC_some, New_eq, At_eq, Ck_true, Rt0_mk, BrB_true, BrB_false, Nat.zero_add, List.length_cons, List.length_nil, List.getElem?_cons_zero, List.getElem?_cons_succ, List.set_cons_zero, List.set_cons_succ, List.getD_cons_zero, List.getD_cons_succ, Option.isNone_some, Option.isNone_none, Go.Disk.fsO, Go.Disk.fileO, Bool.false_eq_true, eq_self, Nat.reduceAdd, Nat.reduceSub, Nat.reduceMul, Nat.reduceLT, Nat.reduceLeDiff, Nat.reduceEqDiff, Int.reduceNeg, Int.reduceEq, Int.reduceNe, Int.reduceBEq, Int.reduceBNe, Int.reduceLT, Int.reduceLE, Int.reduceGT, Int.reduceAdd, reduceIte, Bool.not_true, Bool.not_false, decide_true, decide_false, ne_eq, not_false_eq_true, not_true_eq_false]
    exact hK H C ⟨x, rfl, h⟩ (Ev.refl _ _ _)
  | false =>
    rw [hd, if_neg (by simp)] at hK
    simp only [cellH_mk, cellO_some, add_mk, size_upd, upd_upd, one_int, one_bool, one_string, one_pointer, one_slice, one_map, one_func, st1_some, stN_nil, stN_cons, StV_mk, StO_some, Ld_some, RtI_mk, RtB_mk, RtS_mk, RtP_mk, RtL_mk, RtM_mk, RtA_mk, RtT_mk, NilC_some, New_eq, At_eq, Ck_true, Rt0_mk, BrB_true, BrB_false, Nat.zero_add, List.length_cons, List.length_nil, List.getElem?_cons_zero, List.getElem?_cons_succ, List.set_cons_zero, List.set_cons_succ, List.getD_cons_zero, List.getD_cons_succ, Option.isNone_some, Option.isNone_none, Go.Disk.fsO, Go.Disk.fileO, Bool.false_eq_true, eq_self, Nat.reduceAdd, Nat.reduceSub, Nat.reduceMul, Nat.reduceLT, Nat.reduceLeDiff, Nat.reduceEqDiff, Int.reduceNeg, Int.reduceEq, Int.reduceNe, Int.reduceBEq, Int.reduceBNe, Int.reduceLT, Int.reduceLE, Int.reduceGT, Int.reduceAdd, reduceIte, Bool.not_true, Bool.not_false, decide_true, decide_false, ne_eq, not_false_eq_true, not_true_eq_false]
    refine fails_ok hk h (by omega) hD.fuse hd fun H1 h1 hev1 => ?_
    simp only [cellH_mk, cellO_some, add_mk, size_upd, upd_upd, one_int, one_bool, one_string, one_pointer, one_slice, one_map, one_func, st1_some, stN_nil, stN_cons, StV_mk, StO_some, Ld_some, RtI_mk, RtB_mk, RtS_mk, RtP_mk, RtL_mk, RtM_mk, RtA_mk, RtT_mk, NilC_some, New_eq, At_eq, Ck_true, Rt0_mk, BrB_true, BrB_false, Nat.zero_add, List.length_cons, List.length_nil, List.getElem?_cons_zero, List.getElem?_cons_succ, List.set_cons_zero, List.set_cons_succ, List.getD_cons_zero, List.getD_cons_succ, Option.isNone_some, Option.isNone_none, Go.Disk.fsO, Go.Disk.fileO, Bool.false_eq_true, eq_self, Nat.reduceAdd, Nat.reduceSub, Nat.reduceMul, Nat.reduceLT, Nat.reduceLeDiff, Nat.reduceEqDiff, Int.reduceNeg, Int.reduceEq, Int.reduceNe, Int.reduceBEq, Int.reduceBNe, Int.reduceLT, Int.reduceLE, Int.reduceGT, Int.reduceAdd, reduceIte, Bool.not_true, Bool.not_false, decide_true, decide_false, ne_eq, not_false_eq_true, not_true_eq_false]
    refine BrB_i (fun hb => ?_) (fun hb => ?_)
    · rw [if_pos (by simpa using hb)] at hK
      exact hK H1 C ⟨x, rfl, h1⟩ (hev1.mono fun _ => own_of_at1)
    · rw [if_neg (by simpa using hb)] at hK
      have hp1 := h1.hp
      rw [fsX] at hp1
      simp only [cellH_mk, cellO_some, add_mk, size_upd, upd_upd, one_int, one_bool, one_string, one_pointer, one_slice, one_map, one_func, st1_some, stN_nil, stN_cons, StV_mk, StO_some, Ld_some, RtI_mk, RtB_mk, RtS_mk, RtP_mk, RtL_mk, RtM_mk, RtA_mk, RtT_mk, NilC_some, New_eq, At_eq, Ck_true, Rt0_mk, BrB_true, BrB_false, Nat.zero_add, List.length_cons, List.length_nil, List.getElem?_cons_zero, List.getElem?_cons_succ, List.set_cons_zero, List.set_cons_succ, List.getD_cons_zero, List.getD_cons_succ, Option.isNone_some, Option.isNone_none, Go.Disk.fsO, Go.Disk.fileO, Bool.false_eq_true, eq_self, Nat.reduceAdd, Nat.reduceSub, Nat.reduceMul, Nat.reduceLT, Nat.reduceLeDiff, Nat.reduceEqDiff, Int.reduceNeg, Int.reduceEq, Int.reduceNe, Int.reduceBEq, Int.reduceBNe, Int.reduceLT, Int.reduceLE, Int.reduceGT, Int.reduceAdd, reduceIte, Bool.not_true, Bool.not_false, decide_true, decide_false, ne_eq, not_false_eq_true, not_true_eq_false, hp1]
      refine twin_ok (lab' := (k, 2)) h1.seen fun nb H2 C2 hnb hev2 => ?_
      have hp2 := hev2.get hp1 fun h => h
      have hl2 := lt_of_get hp2
      simp only [cellH_mk, cellO_some, add_mk, size_upd, upd_upd, one_int, one_bool, one_string, one_pointer, one_slice, one_map, one_func, st1_some, stN_nil, stN_cons, StV_mk, StO_some, Ld_some, RtI_mk, RtB_mk, RtS_mk, RtP_mk, RtL_mk, RtM_mk, RtA_mk, RtT_mk, NilC_some, New_eq, At_eq, Ck_true, Rt0_mk, BrB_true, BrB_false, Nat.zero_add, List.length_cons, List.length_nil, List.getElem?_cons_zero, List.getElem?_cons_succ, List.set_cons_zero, List.set_cons_succ, List.getD_cons_zero, List.getD_cons_succ, Option.isNone_some, Option.isNone_none, Go.Disk.fsO, Go.Disk.fileO, Bool.false_eq_true, eq_self, Nat.reduceAdd, Nat.reduceSub, Nat.reduceMul, Nat.reduceLT, Nat.reduceLeDiff, Nat.reduceEqDiff, Int.reduceNeg, Int.reduceEq, Int.reduceNe, Int.reduceBEq, Int.reduceBNe, Int.reduceLT, Int.reduceLE, Int.reduceGT, Int.reduceAdd, reduceIte, Bool.not_true, Bool.not_false, decide_true, decide_false, ne_eq, not_false_eq_true, not_true_eq_false, hp2, get_upd_self, hl2]
      have h2 := h1.ev hev2 (fun _ _ h => h) fun _ _ h => h
      obtain ⟨h3, hev3⟩ := fs_put (x := { x with ms := nb, row := (none, 0, 0) }) (D := { D.blow with sure := D.seen, row := [] }) (u := D.used) hk h2.cp h2.hp h2.files hnb h2.seen ⟨SlO.nil _ _ _ _ _, rfl⟩
      exact hK _ C2 ⟨{ x with ms := nb, row := (none, 0, 0) }, rfl, h3⟩ ((hev1.mono fun _ => own_of_at1).trans ((hev2.mono fun _ h => h.elim).trans (hev3.mono fun _ => own_of_at1)))
end Go.Proofs

namespace Go.Disk
open Go Go.Fx
def dSize (name : Name) (D : Disk) : Int × Int := if D.dead then (0, 13) else match dget name D.seen with | none => (0, 7) | some n => ((nowOf D n).length, 0)
def dUsed (D : Disk) : Int := if D.dead then 0 else D.used
def dRoom (D : Disk) : Int := if D.dead then 0 else D.room
def dRead (name : Name) (off n : Int) (D : Disk) : List UInt8 × Int :=
  if D.dead then ([], 13) else match dget name D.seen with
  | none => ([], 7)
  | some i => if off < 0 ∨ ((nowOf D i).length : Int) < off ∨ n < 0 then ([], 2) else (((nowOf D i).drop off.toNat).take n.toNat, 0)
end Go.Disk
namespace Go.Proofs
open Go Go.Fx Go.Disk
set_option linter.unusedVariables false
set_option maxRecDepth 20000
section
variable {H : Heap} {C : Col} {k p : Nat} {D : Disk} {K : Value → Heap → Prop}

theorem Acts_ok (h : IsFS H C k p D) (hK : K (.int .i64 (D.acts : Int)) H) : Fn 32 [.pointer (some ⟨p, 0, none⟩)] H K := by
  obtain ⟨x, rfl, h⟩ := h
  refine F32_ok _ ?_
  unfold F32
  have hp := h.hp
  rw [fsX] at hp
  simp only [cellH_mk, cellO_some, add_mk, size_upd, upd_upd, one_int, one_bool, one_string, one_pointer, one_slice, one_map, one_func, st1_some, stN_nil, stN_cons, StV_mk, StO_some, Ld_some, RtI_mk, RtB_mk, RtS_mk, RtP_mk, RtL_mk, RtM_mk, RtA_mk, RtT_mk, NilC_some, New_eq, At_eq, Ck_true, Rt0_mk, BrB_true, BrB_false, Nat.zero_add, List.length_cons, List.length_nil, List.getElem?_cons_zero, List.getElem?_cons_succ, List.set_cons_zero, List.set_cons_succ, List.getD_cons_zero, List.getD_cons_succ, Option.isNone_some, Option.isNone_none, Go.Disk.fsO, Go.Disk.fileO, Bool.false_eq_true, eq_self, Nat.reduceAdd, Nat.reduceSub, Nat.reduceMul, Nat.reduceLT, Nat.reduceLeDiff, Nat.reduceEqDiff, Int.reduceNeg, Int.reduceEq, Int.reduceNe, Int.reduceBEq, Int.reduceBNe, Int.reduceLT, Int.reduceLE, Int.reduceGT, Int.reduceAdd, reduceIte, Bool.not_true, Bool.not_false, decide_true, decide_false, ne_eq, not_false_eq_true, not_true_eq_false, hp]
  exact hK
theorem Dead_ok (h : IsFS H C k p D) (hK : K (.bool D.dead) H) : Fn 34 [.pointer (some ⟨p, 0, none⟩)] H K := by
  obtain ⟨x, rfl, h⟩ := h
  refine F34_ok _ ?_
  unfold F34
  have hp := h.hp
  rw [fsX] at hp
  simp only [cellH_mk, cellO_some, add_mk, size_upd, upd_upd, one_int, one_bool, one_string, one_pointer, one_slice, one_map, one_func, st1_some, stN_nil, stN_cons, StV_mk, StO_some, Ld_some, RtI_mk, RtB_mk, RtS_mk, RtP_mk, RtL_mk, RtM_mk, RtA_mk, RtT_mk, NilC_some, New_eq, At_eq, Ck_true, Rt0_mk, BrB_true, BrB_false, Nat.zero_add, List.length_cons, List.length_nil, List.getElem?_cons_zero, List.getElem?_cons_succ, List.set_cons_zero, List.set_cons_succ, List.getD_cons_zero, List.getD_cons_succ, Option.isNone_some, Option.isNone_none, Go.Disk.fsO, Go.Disk.fileO, Bool.false_eq_true, eq_self, Nat.reduceAdd, Nat.reduceSub, Nat.reduceMul, Nat.reduceLT, Nat.reduceLeDiff, Nat.reduceEqDiff, Int.reduceNeg, Int.reduceEq, Int.reduceNe, Int.reduceBEq, Int.reduceBNe, Int.reduceLT, Int.reduceLE, Int.reduceGT, Int.reduceAdd, reduceIte, Bool.not_true, Bool.not_false, decide_true, decide_false, ne_eq, not_false_eq_true, not_true_eq_false, hp]
  exact hK
theorem Used_ok (h : IsFS H C k p D) (hK : K (.int .i64 (dUsed D)) H) : Fn 33 [.pointer (some ⟨p, 0, none⟩)] H K := by
  obtain ⟨x, rfl, h⟩ := h
  refine F33_ok _ ?_
  unfold F33
  have hp := h.hp
  refine ready_ok hp rfl ?_
  show RtI .i64 (.int .i64 (if D.dead = true then 13 else 0)) _
  rw [fsX] at hp
  unfold dUsed at hK
  cases hd : D.dead with
  | true => rw [hd] at hK; simp only [cellH_mk, cellO_some, add_mk, size_upd, upd_upd, one_int, one_bool, one_string, one_pointer, one_slice, one_map, one_func, st1_some, stN_nil, stN_cons, StV_mk, StO_some, Ld_some, RtI_mk, RtB_mk, RtS_mk, RtP_mk, RtL_mk, RtM_mk, RtA_mk, RtT_mk, NilC_some, New_eq, At_eq, Ck_true, Rt0_mk, BrB_true, BrB_false, Nat.zero_add, List.length_cons, List.length_nil, List.getElem?_cons_zero, List.getElem?_cons_succ, List.set_cons_zero, List.set_cons_succ, List.getD_cons_zero, List.getD_cons_succ, Option.isNone_some, Option.isNone_none, Go.Disk.fsO, Go.Disk.fileO, Bool.false_eq_true, eq_self, Nat.reduceAdd, Nat.reduceSub, Nat.reduceMul, Nat.reduceLT, Nat.reduceLeDiff, Nat.reduceEqDiff, Int.reduceNeg, Int.reduceEq, Int.reduceNe, Int.reduceBEq, Int.reduceBNe, Int.reduceLT, Int.reduceLE, Int.reduceGT, Int.reduceAdd, reduceIte, Bool.not_true, Bool.not_false, decide_true, decide_false, ne_eq, not_false_eq_true, not_true_eq_false]; exact hK
  | false => rw [hd] at hK; simp only [cellH_mk, cellO_some, add_mk, size_upd, upd_upd, one_int, one_bool, one_string, one_pointer, one_slice, one_map, one_func, st1_some, stN_nil, stN_cons, StV_mk, StO_some, Ld_some, RtI_mk, RtB_mk, RtS_mk, RtP_mk, RtL_mk, RtM_mk, RtA_mk, RtT_mk, NilC_some, New_eq, At_eq, Ck_true, Rt0_mk, BrB_true, BrB_false, Nat.zero_add, List.length_cons, List.length_nil, List.getElem?_cons_zero, List.getElem?_cons_succ, List.set_cons_zero, List.set_cons_succ, List.getD_cons_zero, List.getD_cons_succ, Option.isNone_some, Option.isNone_none, Go.Disk.fsO, Go.Disk.fileO, Bool.false_eq_true, eq_self, Nat.reduceAdd, Nat.reduceSub, Nat.reduceMul, Nat.reduceLT, Nat.reduceLeDiff, Nat.reduceEqDiff, Int.reduceNeg, Int.reduceEq, Int.reduceNe, Int.reduceBEq, Int.reduceBNe, Int.reduceLT, Int.reduceLE, Int.reduceGT, Int.reduceAdd, reduceIte, Bool.not_true, Bool.not_false, decide_true, decide_false, ne_eq, not_false_eq_true, not_true_eq_false, hp]; exact hK
theorem Room_ok (h : IsFS H C k p D) (hK : K (.int .i64 (dRoom D)) H) : Fn 36 [.pointer (some ⟨p, 0, none⟩)] H K := by
  obtain ⟨x, rfl, h⟩ := h
  refine F36_ok _ ?_
  unfold F36
  have hp := h.hp
  refine ready_ok hp rfl ?_
  show RtI .i64 (.int .i64 (if D.dead = true then 13 else 0)) _
  rw [fsX] at hp
  unfold dRoom at hK
  cases hd : D.dead with
  | true => rw [hd] at hK; simp only [cellH_mk, cellO_some, add_mk, size_upd, upd_upd, one_int, one_bool, one_string, one_pointer, one_slice, one_map, one_func, st1_some, stN_nil, stN_cons, StV_mk, StO_some, Ld_some, RtI_mk, RtB_mk, RtS_mk, RtP_mk, RtL_mk, RtM_mk, RtA_mk, RtT_mk, NilC_some, New_eq, At_eq, Ck_true, Rt0_mk, BrB_true, BrB_false, Nat.zero_add, List.length_cons, List.length_nil, List.getElem?_cons_zero, List.getElem?_cons_succ, List.set_cons_zero, List.set_cons_succ, List.getD_cons_zero, List.getD_cons_succ, Option.isNone_some, Option.isNone_none, Go.Disk.fsO, Go.Disk.fileO, Bool.false_eq_true, eq_self, Nat.reduceAdd, Nat.reduceSub, Nat.reduceMul, Nat.reduceLT, Nat.reduceLeDiff, Nat.reduceEqDiff, Int.reduceNeg, Int.reduceEq, Int.reduceNe, Int.reduceBEq, Int.reduceBNe, Int.reduceLT, Int.reduceLE, Int.reduceGT, Int.reduceAdd, reduceIte, Bool.not_true, Bool.not_false, decide_true, decide_false, ne_eq, not_false_eq_true, not_true_eq_false]; exact hK
  | false => rw [hd] at hK; simp only [cellH_mk, cellO_some, add_mk, size_upd, upd_upd, one_int, one_bool, one_string, one_pointer, one_slice, one_map, one_func, st1_some, stN_nil, stN_cons, StV_mk, StO_some, Ld_some, RtI_mk, RtB_mk, RtS_mk, RtP_mk, RtL_mk, RtM_mk, RtA_mk, RtT_mk, NilC_some, New_eq, At_eq, Ck_true, Rt0_mk, BrB_true, BrB_false, Nat.zero_add, List.length_cons, List.length_nil, List.getElem?_cons_zero, List.getElem?_cons_succ, List.set_cons_zero, List.set_cons_succ, List.getD_cons_zero, List.getD_cons_succ, Option.isNone_some, Option.isNone_none, Go.Disk.fsO, Go.Disk.fileO, Bool.false_eq_true, eq_self, Nat.reduceAdd, Nat.reduceSub, Nat.reduceMul, Nat.reduceLT, Nat.reduceLeDiff, Nat.reduceEqDiff, Int.reduceNeg, Int.reduceEq, Int.reduceNe, Int.reduceBEq, Int.reduceBNe, Int.reduceLT, Int.reduceLE, Int.reduceGT, Int.reduceAdd, reduceIte, Bool.not_true, Bool.not_false, decide_true, decide_false, ne_eq, not_false_eq_true, not_true_eq_false, hp]; exact hK
theorem Arm_ok (hk : k ≠ 0) (h : IsFS H C k p D) {n : Int} (hK : ∀ H' C', IsFS H' C' k p (dArm n D).2 → Ev (own k) H C H' C' → K (.int .i64 (dArm n D).1) H') : Fn 35 [.pointer (some ⟨p, 0, none⟩), .int .i64 n] H K := by
  obtain ⟨x, rfl, h⟩ := h
  refine F35_ok _ _ ?_
  unfold F35
  have hp := h.hp
  refine ready_ok hp rfl ?_
  show RtI .i64 (.int .i64 (if D.dead = true then 13 else 0)) _
  rw [fsX] at hp
  unfold dArm at hK
  cases hd : D.dead with
  | true =>
    rw [if_pos hd] at hK; simp only [cellH_mk, cellO_some, add_mk, size_upd, upd_upd, one_int, one_bool, one_string, one_pointer, one_slice, one_map, one_func, st1_some, stN_nil, stN_cons, StV_mk, StO_some, Ld_some, RtI_mk, RtB_mk, RtS_mk, RtP_mk, RtL_mk, RtM_mk, RtA_mk, RtT_mk, NilC_some, New_eq, At_eq, Ck_true, Rt0_mk, BrB_true, BrB_false, Nat.zero_add, List.length_cons, List.length_nil, List.getElem?_cons_zero, List.getElem?_cons_succ, List.set_cons_zero, List.set_cons_succ, List.getD_cons_zero, List.getD_cons_succ, Option.isNone_some, Option.isNone_none, Go.Disk.fsO, Go.Disk.fileO, Bool.false_eq_true, eq_self, Nat.reduceAdd, Nat.reduceSub, Nat.reduceMul, Nat.reduceLT, Nat.reduceLeDiff, Nat.reduceEqDiff, Int.reduceNeg, Int.reduceEq, Int.reduceNe, Int.reduceBEq, Int.reduceBNe, Int.reduceLT, Int.reduceLE, Int.reduceGT, Int.reduceAdd, reduceIte, Bool.not_true, Bool.not_false, decide_true, decide_false, ne_eq, not_false_eq_true, not_true_eq_false]; exact hK H C ⟨x, rfl, h⟩ (Ev.refl _ _ _)
  | false =>
    rw [if_neg (by rw [hd]; simp)] at hK
    simp only [cellH_mk, cellO_some, add_mk, size_upd, upd_upd, one_int, one_bool, one_string, one_pointer, one_slice, one_map, one_func, st1_some, stN_nil, stN_cons, StV_mk, StO_some, Ld_some, RtI_mk, RtB_mk, RtS_mk, RtP_mk, RtL_mk, RtM_mk, RtA_mk, RtT_mk, NilC_some, New_eq, At_eq, Ck_true, Rt0_mk, BrB_true, BrB_false, Nat.zero_add, List.length_cons, List.length_nil, List.getElem?_cons_zero, List.getElem?_cons_succ, List.set_cons_zero, List.set_cons_succ, List.getD_cons_zero, List.getD_cons_succ, Option.isNone_some, Option.isNone_none, Go.Disk.fsO, Go.Disk.fileO, Bool.false_eq_true, eq_self, Nat.reduceAdd, Nat.reduceSub, Nat.reduceMul, Nat.reduceLT, Nat.reduceLeDiff, Nat.reduceEqDiff, Int.reduceNeg, Int.reduceEq, Int.reduceNe, Int.reduceBEq, Int.reduceBNe, Int.reduceLT, Int.reduceLE, Int.reduceGT, Int.reduceAdd, reduceIte, Bool.not_true, Bool.not_false, decide_true, decide_false, ne_eq, not_false_eq_true, not_true_eq_false]
    refine BrB_i (fun hb => ?_) (fun hb => ?_)
    · rw [if_pos (of_decide_eq_true hb)] at hK
      exact hK H C ⟨x, rfl, h⟩ (Ev.refl _ _ _)
    · have hb := of_decide_eq_false hb
      rw [if_neg hb] at hK
      obtain ⟨h1, hev1⟩ := h.setP (D' := { D with fuse := n.toNat }) (u' := D.used) hk rfl rfl rfl rfl
      have hk1 := hK _ _ ⟨x, rfl, h1⟩ (hev1.mono fun _ => own_of_at1)
      rw [fsX] at hk1
      have e : ((n.toNat : Nat) : Int) = n := by omega
      simp only [cellH_mk, cellO_some, add_mk, size_upd, upd_upd, one_int, one_bool, one_string, one_pointer, one_slice, one_map, one_func, st1_some, stN_nil, stN_cons, StV_mk, StO_some, Ld_some, RtI_mk, RtB_mk, RtS_mk, RtP_mk, RtL_mk, RtM_mk, RtA_mk, RtT_mk, NilC_some, New_eq, At_eq, Ck_true, Rt0_mk, BrB_true, BrB_false, Nat.zero_add, List.length_cons, List.length_nil, List.getElem?_cons_zero, List.getElem?_cons_succ, List.set_cons_zero, List.set_cons_succ, List.getD_cons_zero, List.getD_cons_succ, Option.isNone_some, Option.isNone_none, Go.Disk.fsO, Go.Disk.fileO, Bool.false_eq_true, eq_self, Nat.reduceAdd, Nat.reduceSub, Nat.reduceMul, Nat.reduceLT, Nat.reduceLeDiff, Nat.reduceEqDiff, Int.reduceNeg, Int.reduceEq, Int.reduceNe, Int.reduceBEq, Int.reduceBNe, Int.reduceLT, Int.reduceLE, Int.reduceGT, Int.reduceAdd, reduceIte, Bool.not_true, Bool.not_false, decide_true, decide_false, ne_eq, not_false_eq_true, not_true_eq_false, hp]
      simp only [e, hd] at hk1
      rw [hd]
      exact hk1
theorem Size_ok (h : IsFS H C k p D) (hD : DiskOk D) {name : Name} (hK : K (.tuple ⟨[.int .i64 (dSize name D).1, .int .i64 (dSize name D).2]⟩) H) : Fn 45 [.pointer (some ⟨p, 0, none⟩), .string name] H K := by
  obtain ⟨x, rfl, h⟩ := h
  refine F45_ok _ _ ?_
  unfold F45
  unfold dSize at hK
  refine get_ok h hD.seen (fun hd => ?_) (fun hd hg => ?_) fun n fb f hd hg hfb hn => ?_
  · rw [if_pos hd] at hK
    simp only [cellH_mk, cellO_some, add_mk, size_upd, upd_upd, one_int, one_bool, one_string, one_pointer, one_slice, one_map, one_func, st1_some, stN_nil, stN_cons, StV_mk, StO_some, Ld_some, RtI_mk, RtB_mk, RtS_mk, RtP_mk, RtL_mk, RtM_mk, RtA_mk, RtT_mk, NilC_some, New_eq, At_eq, Ck_true, Rt0_mk, BrB_true, BrB_false, Nat.zero_add, List.length_cons, List.length_nil, List.getElem?_cons_zero, List.getElem?_cons_succ, List.set_cons_zero, List.set_cons_succ, List.getD_cons_zero, List.getD_cons_succ, Option.isNone_some, Option.isNone_none, Go.Disk.fsO, Go.Disk.fileO, Bool.false_eq_true, eq_self, Nat.reduceAdd, Nat.reduceSub, Nat.reduceMul, Nat.reduceLT, Nat.reduceLeDiff, Nat.reduceEqDiff, Int.reduceNeg, Int.reduceEq, Int.reduceNe, Int.reduceBEq, Int.reduceBNe, Int.reduceLT, Int.reduceLE, Int.reduceGT, Int.reduceAdd, reduceIte, Bool.not_true, Bool.not_false, decide_true, decide_false, ne_eq, not_false_eq_true, not_true_eq_false]
    exact hK
  · rw [if_neg (by rw [hd]; simp), hg] at hK
    simp only [cellH_mk, cellO_some, add_mk, size_upd, upd_upd, one_int, one_bool, one_string, one_pointer, one_slice, one_map, one_func, st1_some, stN_nil, stN_cons, StV_mk, StO_some, Ld_some, RtI_mk, RtB_mk, RtS_mk, RtP_mk, RtL_mk, RtM_mk, RtA_mk, RtT_mk, NilC_some, New_eq, At_eq, Ck_true, Rt0_mk, BrB_true, BrB_false, Nat.zero_add, List.length_cons, List.length_nil, List.getElem?_cons_zero, List.getElem?_cons_succ, List.set_cons_zero, List.set_cons_succ, List.getD_cons_zero, List.getD_cons_succ, Option.isNone_some, Option.isNone_none, Go.Disk.fsO, Go.Disk.fileO, Bool.false_eq_true, eq_self, Nat.reduceAdd, Nat.reduceSub, Nat.reduceMul, Nat.reduceLT, Nat.reduceLeDiff, Nat.reduceEqDiff, Int.reduceNeg, Int.reduceEq, Int.reduceNe, Int.reduceBEq, Int.reduceBNe, Int.reduceLT, Int.reduceLE, Int.reduceGT, Int.reduceAdd, reduceIte, Bool.not_true, Bool.not_false, decide_true, decide_false, ne_eq, not_false_eq_true, not_true_eq_false]
    exact hK
  · rw [if_neg (by rw [hd]; simp), hg] at hK
    obtain ⟨qc, s, nw, r, cells, hf, hs, hnw, hrow, hch, hrl⟩ := h.files.2.2.2 n fb f hfb hn
    have hnl := hnw.len
    simp only [nowOf_of hn] at hK
    simp only [cellH_mk, cellO_some, add_mk, size_upd, upd_upd, one_int, one_bool, one_string, one_pointer, one_slice, one_map, one_func, st1_some, stN_nil, stN_cons, StV_mk, StO_some, Ld_some, RtI_mk, RtB_mk, RtS_mk, RtP_mk, RtL_mk, RtM_mk, RtA_mk, RtT_mk, NilC_some, New_eq, At_eq, Ck_true, Rt0_mk, BrB_true, BrB_false, Nat.zero_add, List.length_cons, List.length_nil, List.getElem?_cons_zero, List.getElem?_cons_succ, List.set_cons_zero, List.set_cons_succ, List.getD_cons_zero, List.getD_cons_succ, Option.isNone_some, Option.isNone_none, Go.Disk.fsO, Go.Disk.fileO, Bool.false_eq_true, eq_self, Nat.reduceAdd, Nat.reduceSub, Nat.reduceMul, Nat.reduceLT, Nat.reduceLeDiff, Nat.reduceEqDiff, Int.reduceNeg, Int.reduceEq, Int.reduceNe, Int.reduceBEq, Int.reduceBNe, Int.reduceLT, Int.reduceLE, Int.reduceGT, Int.reduceAdd, reduceIte, Bool.not_true, Bool.not_false, decide_true, decide_false, ne_eq, not_false_eq_true, not_true_eq_false, hf]
    rw [hnl]
    exact hK
theorem Read_ok (h : IsFS H C k p D) (hD : DiskOk D) {name : Name} {off n : Int} (hoff : -2 ^ 63 ≤ off ∧ off < 2 ^ 63) (hn63 : n < 2 ^ 63) (lab : Lab)
    (hK : ∀ a l c H' C', SlO H' C' lab 5 1 a l c (byts (dRead name off n D).1) → Ev no H C H' C' → K (.tuple ⟨[.slice a l c, .int .i64 (dRead name off n D).2]⟩) H') :
    Fn 21 [.pointer (some ⟨p, 0, none⟩), .string name, .int .i64 off, .int .i64 n] H K := by
  obtain ⟨x, rfl, h⟩ := h
  refine F21_ok _ _ _ _ ?_
  unfold F21
  unfold dRead at hK
  refine get_ok h hD.seen (fun hd => ?_) (fun hd hg => ?_) fun i fb f hd hg hfb hn => ?_
  · rw [if_pos hd] at hK
    simp only [cellH_mk, cellO_some, add_mk, size_upd, upd_upd, one_int, one_bool, one_string, one_pointer, one_slice, one_map, one_func, st1_some, stN_nil, stN_cons, StV_mk, StO_some, Ld_some, RtI_mk, RtB_mk, RtS_mk, RtP_mk, RtL_mk, RtM_mk, RtA_mk, RtT_mk, NilC_some, New_eq, At_eq, Ck_true, Rt0_mk, BrB_true, BrB_false, Nat.zero_add, List.length_cons, List.length_nil, List.getElem?_cons_zero, List.getElem?_cons_succ, List.set_cons_zero, List.set_cons_succ, List.getD_cons_zero, List.getD_cons_succ, Option.isNone_some, Option.isNone_none, Go.Disk.fsO, Go.Disk.fileO, Bool.false_eq_true, eq_self, Nat.reduceAdd, Nat.reduceSub, Nat.reduceMul, Nat.reduceLT, Nat.reduceLeDiff, Nat.reduceEqDiff, Int.reduceNeg, Int.reduceEq, Int.reduceNe, Int.reduceBEq, Int.reduceBNe, Int.reduceLT, Int.reduceLE, Int.reduceGT, Int.reduceAdd, reduceIte, Bool.not_true, Bool.not_false, decide_true, decide_false, ne_eq, not_false_eq_true, not_true_eq_false]
    exact hK none 0 0 H C (SlO.nil _ _ _ _ _) (Ev.refl _ _ _)
  · rw [if_neg (by rw [hd]; simp), hg] at hK
    simp only [cellH_mk, cellO_some, add_mk, size_upd, upd_upd, one_int, one_bool, one_string, one_pointer, one_slice, one_map, one_func, st1_some, stN_nil, stN_cons, StV_mk, StO_some, Ld_some, RtI_mk, RtB_mk, RtS_mk, RtP_mk, RtL_mk, RtM_mk, RtA_mk, RtT_mk, NilC_some, New_eq, At_eq, Ck_true, Rt0_mk, BrB_true, BrB_false, Nat.zero_add, List.length_cons, List.length_nil, List.getElem?_cons_zero, List.getElem?_cons_succ, List.set_cons_zero, List.set_cons_succ, List.getD_cons_zero, List.getD_cons_succ, Option.isNone_some, Option.isNone_none, Go.Disk.fsO, Go.Disk.fileO, Bool.false_eq_true, eq_self, Nat.reduceAdd, Nat.reduceSub, Nat.reduceMul, Nat.reduceLT, Nat.reduceLeDiff, Nat.reduceEqDiff, Int.reduceNeg, Int.reduceEq, Int.reduceNe, Int.reduceBEq, Int.reduceBNe, Int.reduceLT, Int.reduceLE, Int.reduceGT, Int.reduceAdd, reduceIte, Bool.not_true, Bool.not_false, decide_true, decide_false, ne_eq, not_false_eq_true, not_true_eq_false]
    exact hK none 0 0 H C (SlO.nil _ _ _ _ _) (Ev.refl _ _ _)
  · rw [if_neg (by rw [hd]; simp), hg] at hK
    obtain ⟨qc, s, nw, r, cells, hf, hs, hnw, hrow, hch, hrl⟩ := h.files.2.2.2 i fb f hfb hn
    have hnl := hnw.len
    have hcap := hnw.cap
    have hfl := flen_le hD i
    rw [flen_of hn] at hfl
    simp only [nowOf_of hn] at hK
    have bad : (off < 0 ∨ (f.now.length : Int) < off ∨ n < 0) → K (.tuple ⟨[.slice none 0 0, .int .i64 2]⟩) H := by
      intro hb
      rw [if_pos hb] at hK
      exact hK none 0 0 H C (SlO.nil _ _ _ _ _) (Ev.refl _ _ _)
    simp only [cellH_mk, cellO_some, add_mk, size_upd, upd_upd, one_int, one_bool, one_string, one_pointer, one_slice, one_map, one_func, st1_some, stN_nil, stN_cons, StV_mk, StO_some, Ld_some, RtI_mk, RtB_mk, RtS_mk, RtP_mk, RtL_mk, RtM_mk, RtA_mk, RtT_mk, NilC_some, New_eq, At_eq, Ck_true, Rt0_mk, BrB_true, BrB_false, Nat.zero_add, List.length_cons, List.length_nil, List.getElem?_cons_zero, List.getElem?_cons_succ, List.set_cons_zero, List.set_cons_succ, List.getD_cons_zero, List.getD_cons_succ, Option.isNone_some, Option.isNone_none, Go.Disk.fsO, Go.Disk.fileO, Bool.false_eq_true, eq_self, Nat.reduceAdd, Nat.reduceSub, Nat.reduceMul, Nat.reduceLT, Nat.reduceLeDiff, Nat.reduceEqDiff, Int.reduceNeg, Int.reduceEq, Int.reduceNe, Int.reduceBEq, Int.reduceBNe, Int.reduceLT, Int.reduceLE, Int.reduceGT, Int.reduceAdd, reduceIte, Bool.not_true, Bool.not_false, decide_true, decide_false, ne_eq, not_false_eq_true, not_true_eq_false]
    refine BrB_i (fun h0 => bad (.inl (of_decide_eq_true h0))) (fun h0 => ?_)
    have h0 := of_decide_eq_false h0
    simp only [cellH_mk, cellO_some, add_mk, size_upd, upd_upd, one_int, one_bool, one_string, one_pointer, one_slice, one_map, one_func, st1_some, stN_nil, stN_cons, StV_mk, StO_some, Ld_some, RtI_mk, RtB_mk, RtS_mk, RtP_mk, RtL_mk, RtM_mk, RtA_mk, RtT_mk, NilC_some, New_eq, At_eq, Ck_true, Rt0_mk, BrB_true, BrB_false, Nat.zero_add, List.length_cons, List.length_nil, List.getElem?_cons_zero, List.getElem?_cons_succ, List.set_cons_zero, List.set_cons_succ, List.getD_cons_zero, List.getD_cons_succ, Option.isNone_some, Option.isNone_none, Go.Disk.fsO, Go.Disk.fileO, Bool.false_eq_true, eq_self, Nat.reduceAdd, Nat.reduceSub, Nat.reduceMul, Nat.reduceLT, Nat.reduceLeDiff, Nat.reduceEqDiff, Int.reduceNeg, Int.reduceEq, Int.reduceNe, Int.reduceBEq, Int.reduceBNe, Int.reduceLT, Int.reduceLE, Int.reduceGT, Int.reduceAdd, reduceIte, Bool.not_true, Bool.not_false, decide_true, decide_false, ne_eq, not_false_eq_true, not_true_eq_false, hf]
    refine BrB_i (fun h1 => bad (.inr (.inl (by have := of_decide_eq_true h1; omega)))) (fun h1 => ?_)
    have h1 := of_decide_eq_false h1
    refine BrB_i (fun h2 => bad (.inr (.inr (of_decide_eq_true h2)))) (fun h2 => ?_)
    have h2 := of_decide_eq_false h2
    rw [if_neg (by omega)] at hK
    simp only [cellH_mk, cellO_some, add_mk, size_upd, upd_upd, one_int, one_bool, one_string, one_pointer, one_slice, one_map, one_func, st1_some, stN_nil, stN_cons, StV_mk, StO_some, Ld_some, RtI_mk, RtB_mk, RtS_mk, RtP_mk, RtL_mk, RtM_mk, RtA_mk, RtT_mk, NilC_some, New_eq, At_eq, Ck_true, Rt0_mk, BrB_true, BrB_false, Nat.zero_add, List.length_cons, List.length_nil, List.getElem?_cons_zero, List.getElem?_cons_succ, List.set_cons_zero, List.set_cons_succ, List.getD_cons_zero, List.getD_cons_succ, Option.isNone_some, Option.isNone_none, Go.Disk.fsO, Go.Disk.fileO, Bool.false_eq_true, eq_self, Nat.reduceAdd, Nat.reduceSub, Nat.reduceMul, Nat.reduceLT, Nat.reduceLeDiff, Nat.reduceEqDiff, Int.reduceNeg, Int.reduceEq, Int.reduceNe, Int.reduceBEq, Int.reduceBNe, Int.reduceLT, Int.reduceLE, Int.reduceGT, Int.reduceAdd, reduceIte, Bool.not_true, Bool.not_false, decide_true, decide_false, ne_eq, not_false_eq_true, not_true_eq_false, hf]
    have w1 : IntKind.wrap .i64 (((nw.2.1 : Nat) : Int) - off) = (((f.now.length - off.toNat : Nat)) : Int) := by rw [hnl, w64 (by omega) (by omega)]; omega
    rw [w1]
    have hm : imin n ((f.now.length - off.toNat : Nat) : Int) = ((Nat.min n.toNat (f.now.length - off.toNat) : Nat) : Int) := by
      unfold imin
      show _ = ((min _ _ : Nat) : Int)
      split <;> omega
    rw [hm]
    generalize hmm : Nat.min n.toNat (f.now.length - off.toNat) = m
    have hm1 : m ≤ f.now.length - off.toNat := by rw [← hmm]; exact Nat.min_le_right _ _
    have w2 : IntKind.wrap .i64 (off + (m : Int)) = ((off.toNat + m : Nat) : Int) := by rw [w64 (by omega) (by omega)]; omega
    have ho : off = ((off.toNat : Nat) : Int) := by omega
    rw [w2]
    rw [ho]
    simp only [Int.toNat_natCast]
    refine Ck_i ⟨by omega, by omega, by omega, by omega⟩ ?_
    rw [slN_eq, slN_eq]
    have hsub := SlI.sub hnw (lo := off.toNat) (hi := off.toNat + m) (mx := nw.2.2) (by omega) (by omega) (by omega)
    have e : List.take ((off.toNat + m - off.toNat) * 1) (List.drop (off.toNat * 1) (byts f.now)) = byts ((f.now.drop off.toNat).take n.toNat) := by
      rw [Nat.mul_one, Nat.mul_one, ← byts_drop, ← byts_take, Nat.add_sub_cancel_left]
      congr 1
      rw [← hmm]
      show List.take (min _ _) _ = _
      rw [← List.take_take, List.take_of_length_le (l := f.now.drop off.toNat) (by rw [List.length_drop]; omega)]
    rw [e] at hsub
    refine app_copyK (C := C) (lab := lab) und22 und22 (.inl ⟨_, rfl⟩) tyf5 (by rfl) hsub.src hsub.1 byts_one (by omega) (by omega) fun a2 c2 H2 C2 ho2 hev2 => ?_
    simp only [cellH_mk, cellO_some, add_mk, size_upd, upd_upd, one_int, one_bool, one_string, one_pointer, one_slice, one_map, one_func, st1_some, stN_nil, stN_cons, StV_mk, StO_some, Ld_some, RtI_mk, RtB_mk, RtS_mk, RtP_mk, RtL_mk, RtM_mk, RtA_mk, RtT_mk, NilC_some, New_eq, At_eq, Ck_true, Rt0_mk, BrB_true, BrB_false, Nat.zero_add, List.length_cons, List.length_nil, List.getElem?_cons_zero, List.getElem?_cons_succ, List.set_cons_zero, List.set_cons_succ, List.getD_cons_zero, List.getD_cons_succ, Option.isNone_some, Option.isNone_none, Go.Disk.fsO, Go.Disk.fileO, Bool.false_eq_true, eq_self, Nat.reduceAdd, Nat.reduceSub, Nat.reduceMul, Nat.reduceLT, Nat.reduceLeDiff, Nat.reduceEqDiff, Int.reduceNeg, Int.reduceEq, Int.reduceNe, Int.reduceBEq, Int.reduceBNe, Int.reduceLT, Int.reduceLE, Int.reduceGT, Int.reduceAdd, reduceIte, Bool.not_true, Bool.not_false, decide_true, decide_false, ne_eq, not_false_eq_true, not_true_eq_false]
    exact hK a2 _ c2 H2 C2 ho2 hev2
end
end Go.Proofs

namespace Go.Disk
open Go Go.Fx
def newDisk (room : Nat) : Disk := ⟨room, [], [], [], [], 0, 0, false⟩
theorem flen_snoc {fs : List FileA} {e : FileA} (hl : ∀ i, flen fs i ≤ 2 ^ 20) (he : e.now.length ≤ 2 ^ 20) : ∀ i, flen (fs ++ [e]) i ≤ 2 ^ 20 := by
  intro i
  have hi := hl i
  unfold flen at hi ⊢
  by_cases h : i < fs.length
  · rw [List.getElem?_append_left h]; exact hi
  · by_cases h2 : i = fs.length
    · subst h2; simpa using he
    · rw [List.getElem?_eq_none (by simp; omega)]; exact Nat.zero_le _
end Go.Disk
namespace Go.Proofs
open Go Go.Fx Go.Disk
set_option linter.unusedVariables false
set_option maxRecDepth 20000

theorem New_bad {H : Heap} {room : Int} {K : Value → Heap → Prop} (hr : room < 0 ∨ 1048576 < room) (hK : K (.tuple ⟨[.pointer none, .int .i64 2]⟩) H) : Fn 14 [.int .i64 room] H K := by
  refine F14_ok _ ?_
  unfold F14
  refine BrB_i (fun _ => hK) (fun h0 => ?_)
  have h0 := of_decide_eq_false h0
  refine BrB_i (fun _ => hK) (fun h1 => ?_)
  have h1 := of_decide_eq_false h1
  omega
theorem New_ok {H : Heap} {C : Col} {k : Nat} {room : Nat} {K : Value → Heap → Prop} (hk : k ≠ 0) (hr : room ≤ 2 ^ 20)
    (hK : ∀ p H' C', IsFS H' C' k p (newDisk room) → Ev no H C H' C' → K (.tuple ⟨[.pointer (some ⟨p, 0, none⟩), .int .i64 0]⟩) H') : Fn 14 [.int .i64 (room : Int)] H K := by
  refine F14_ok _ ?_
  unfold F14
  refine BrB_i (fun h0 => by have := of_decide_eq_true h0; omega) (fun _ => ?_)
  refine BrB_i (fun h0 => by have := of_decide_eq_true h0; omega) (fun _ => ?_)
  simp only [cellH_mk, cellO_some, add_mk, size_upd, upd_upd, one_int, one_bool, one_string, one_pointer, one_slice, one_map, one_func, st1_some, stN_nil, stN_cons, StV_mk, StO_some, Ld_some, RtI_mk, RtB_mk, RtS_mk, RtP_mk, RtL_mk, RtM_mk, RtA_mk, RtT_mk, NilC_some, New_eq, At_eq, Ck_true, Rt0_mk, BrB_true, BrB_false, Nat.zero_add, List.length_cons, List.length_nil, List.getElem?_cons_zero, List.getElem?_cons_succ, List.set_cons_zero, List.set_cons_succ, List.getD_cons_zero, List.getD_cons_succ, Option.isNone_some, Option.isNone_none, Go.Disk.fsO, Go.Disk.fileO, Bool.false_eq_true, eq_self, Nat.reduceAdd, Nat.reduceSub, Nat.reduceMul, Nat.reduceLT, Nat.reduceLeDiff, Nat.reduceEqDiff, Int.reduceNeg, Int.reduceEq, Int.reduceNe, Int.reduceBEq, Int.reduceBNe, Int.reduceLT, Int.reduceLE, Int.reduceGT, Int.reduceAdd, reduceIte, Bool.not_true, Bool.not_false, decide_true, decide_false, ne_eq, not_false_eq_true, not_true_eq_false, NewN_eq]
  generalize hO : Obj.cells _ _ _ = o
  have e1 := ev_push no H C (.map ⟨[]⟩ 0) (k, 1)
  have g1 : (H.push (.map ⟨[]⟩ 0))[H.size]? = some (.map ⟨[]⟩ 0) := get_push_self _ _
  have c1 : setC C H.size (k, 1) H.size = (k, 1) := setC_self _ _ _
  have s1 := lt_of_get g1
  generalize hH1 : H.push (.map ⟨[]⟩ 0) = H1 at *
  generalize hC1 : setC C H.size (k, 1) = C1 at *
  have e2 := ev_push no H1 C1 (.map ⟨[]⟩ 0) (k, 2)
  have g2 : (H1.push (.map ⟨[]⟩ 0))[H1.size]? = some (.map ⟨[]⟩ 0) := get_push_self _ _
  have c2 : setC C1 H1.size (k, 2) H1.size = (k, 2) := setC_self _ _ _
  generalize hH2 : H1.push (.map ⟨[]⟩ 0) = H2 at *
  generalize hC2 : setC C1 H1.size (k, 2) = C2 at *
  have e3 := ev_push no H2 C2 (.map ⟨[]⟩ 0) (k, 3)
  have g3 : (H2.push (.map ⟨[]⟩ 0))[H2.size]? = some (.map ⟨[]⟩ 0) := get_push_self _ _
  have c3 : setC C2 H2.size (k, 3) H2.size = (k, 3) := setC_self _ _ _
  generalize hH3 : H2.push (.map ⟨[]⟩ 0) = H3 at *
  generalize hC3 : setC C2 H2.size (k, 3) = C3 at *
  have e4 := ev_push no H3 C3 o (k, 0)
  have g4 : (H3.push o)[H3.size]? = some o := get_push_self _ _
  have c4 : setC C3 H3.size (k, 0) H3.size = (k, 0) := setC_self _ _ _
  generalize hH4 : H3.push o = H4 at *
  generalize hC4 : setC C3 H3.size (k, 0) = C4 at *
  have e34 := e3.trans e4
  have e234 := e2.trans e34
  refine hK H3.size H4 C4 ⟨⟨H3.size, H.size, H1.size, H2.size, (none, 0, 0), []⟩, rfl, ⟨c4, by rw [g4, ← hO]; rfl, ?_, ?_, ?_, ⟨SlO.nil _ _ _ _ _, rfl⟩⟩⟩ (e1.trans e234)
  · exact ⟨(e234.colOf g1).trans c1, ⟨_, [], e234.get g1 fun h => h, MapIs.made _, List.Perm.refl _⟩, rfl, fun i fb f h => by simp at h⟩
  · exact ⟨(e34.colOf g2).trans c2, _, e34.get g2 fun h => h, [], MapIs.made _, List.Perm.refl _⟩
  · exact ⟨(e4.colOf g3).trans c3, _, e4.get g3 fun h => h, [], MapIs.made _, List.Perm.refl _⟩

theorem Create_ok {H : Heap} {C : Col} {k p : Nat} {D : Disk} {name : Name} {K : Value → Heap → Prop} (hk : k ≠ 0) (h : IsFS H C k p D) (hD : DiskOk D) (ha : D.acts < 2 ^ 39) (hs : name.size < 2 ^ 62)
    (hK : ∀ H' C', IsFS H' C' k p (dCreate name D).2 → Ev (own k) H C H' C' → K (.int .i64 (dCreate name D).1) H') :
    Fn 15 [.pointer (some ⟨p, 0, none⟩), .string name] H K := by
  obtain ⟨x, rfl, h⟩ := h
  refine F15_ok _ _ ?_
  unfold F15
  refine ready_ok h.hp rfl ?_
  show RtI .i64 (.int .i64 (if D.dead = true then 13 else 0)) _
  unfold dCreate at hK
  cases hd : D.dead with
  | true =>
    rw [if_pos hd] at hK
    simp only [cellH_mk, cellO_some, add_mk, size_upd, upd_upd, one_int, one_bool, one_string, one_pointer, one_slice, one_map, one_func, st1_some, stN_nil, stN_cons, StV_mk, StO_some, Ld_some, RtI_mk, RtB_mk, RtS_mk, RtP_mk, RtL_mk, RtM_mk, RtA_mk, RtT_mk, NilC_some, New_eq, At_eq, Ck_true, Rt0_mk, BrB_true, BrB_false, Nat.zero_add, List.length_cons, List.length_nil, List.getElem?_cons_zero, List.getElem?_cons_succ, List.set_cons_zero, List.set_cons_succ, List.getD_cons_zero, List.getD_cons_succ, Option.isNone_some, Option.isNone_none, Go.Disk.fsO, Go.Disk.fileO, Bool.false_eq_true, eq_self, Nat.reduceAdd, Nat.reduceSub, Nat.reduceMul, Nat.reduceLT, Nat.reduceLeDiff, Nat.reduceEqDiff, Int.reduceNeg, Int.reduceEq, Int.reduceNe, Int.reduceBEq, Int.reduceBNe, Int.reduceLT, Int.reduceLE, Int.reduceGT, Int.reduceAdd, reduceIte, Bool.not_true, Bool.not_false, decide_true, decide_false, ne_eq, not_false_eq_true, not_true_eq_false]
    exact hK H C ⟨x, rfl, h⟩ (Ev.refl _ _ _)
  | false =>
    rw [if_neg (by rw [hd]; simp)] at hK
    simp only [cellH_mk, cellO_some, add_mk, size_upd, upd_upd, one_int, one_bool, one_string, one_pointer, one_slice, one_map, one_func, st1_some, stN_nil, stN_cons, StV_mk, StO_some, Ld_some, RtI_mk, RtB_mk, RtS_mk, RtP_mk, RtL_mk, RtM_mk, RtA_mk, RtT_mk, NilC_some, New_eq, At_eq, Ck_true, Rt0_mk, BrB_true, BrB_false, Nat.zero_add, List.length_cons, List.length_nil, List.getElem?_cons_zero, List.getElem?_cons_succ, List.set_cons_zero, List.set_cons_succ, List.getD_cons_zero, List.getD_cons_succ, Option.isNone_some, Option.isNone_none, Go.Disk.fsO, Go.Disk.fileO, Bool.false_eq_true, eq_self, Nat.reduceAdd, Nat.reduceSub, Nat.reduceMul, Nat.reduceLT, Nat.reduceLeDiff, Nat.reduceEqDiff, Int.reduceNeg, Int.reduceEq, Int.reduceNe, Int.reduceBEq, Int.reduceBNe, Int.reduceLT, Int.reduceLE, Int.reduceGT, Int.reduceAdd, reduceIte, Bool.not_true, Bool.not_false, decide_true, decide_false, ne_eq, not_false_eq_true, not_true_eq_false]
    refine isName_ok (C := C) hs fun H1 C1 hev1 => ?_
    have h1 := h.ev hev1 (fun _ _ h => h) fun _ _ h => h
    have hev1' : Ev (own k) H C H1 C1 := hev1.mono fun _ h => h.elim
    simp only [cellH_mk, cellO_some, add_mk, size_upd, upd_upd, one_int, one_bool, one_string, one_pointer, one_slice, one_map, one_func, st1_some, stN_nil, stN_cons, StV_mk, StO_some, Ld_some, RtI_mk, RtB_mk, RtS_mk, RtP_mk, RtL_mk, RtM_mk, RtA_mk, RtT_mk, NilC_some, New_eq, At_eq, Ck_true, Rt0_mk, BrB_true, BrB_false, Nat.zero_add, List.length_cons, List.length_nil, List.getElem?_cons_zero, List.getElem?_cons_succ, List.set_cons_zero, List.set_cons_succ, List.getD_cons_zero, List.getD_cons_succ, Option.isNone_some, Option.isNone_none, Go.Disk.fsO, Go.Disk.fileO, Bool.false_eq_true, eq_self, Nat.reduceAdd, Nat.reduceSub, Nat.reduceMul, Nat.reduceLT, Nat.reduceLeDiff, Nat.reduceEqDiff, Int.reduceNeg, Int.reduceEq, Int.reduceNe, Int.reduceBEq, Int.reduceBNe, Int.reduceLT, Int.reduceLE, Int.reduceGT, Int.reduceAdd, reduceIte, Bool.not_true, Bool.not_false, decide_true, decide_false, ne_eq, not_false_eq_true, not_true_eq_false]
    refine BrB_i (fun hb => ?_) (fun hb => ?_)
    · rw [if_pos hb] at hK
      exact hK H1 C1 ⟨x, rfl, h1⟩ hev1'
    rw [if_neg (by rw [hb]; simp)] at hK
    have hp1 := h1.hp
    rw [fsX] at hp1
    have hl1 := lt_of_get hp1
    obtain ⟨hcv, ov, hv, kvs, hmv, hpv⟩ := h1.seen
    simp only [cellH_mk, cellO_some, add_mk, size_upd, upd_upd, one_int, one_bool, one_string, one_pointer, one_slice, one_map, one_func, st1_some, stN_nil, stN_cons, StV_mk, StO_some, Ld_some, RtI_mk, RtB_mk, RtS_mk, RtP_mk, RtL_mk, RtM_mk, RtA_mk, RtT_mk, NilC_some, New_eq, At_eq, Ck_true, Rt0_mk, BrB_true, BrB_false, Nat.zero_add, List.length_cons, List.length_nil, List.getElem?_cons_zero, List.getElem?_cons_succ, List.set_cons_zero, List.set_cons_succ, List.getD_cons_zero, List.getD_cons_succ, Option.isNone_some, Option.isNone_none, Go.Disk.fsO, Go.Disk.fileO, Bool.false_eq_true, eq_self, Nat.reduceAdd, Nat.reduceSub, Nat.reduceMul, Nat.reduceLT, Nat.reduceLeDiff, Nat.reduceEqDiff, Int.reduceNeg, Int.reduceEq, Int.reduceNe, Int.reduceBEq, Int.reduceBNe, Int.reduceLT, Int.reduceLE, Int.reduceGT, Int.reduceAdd, reduceIte, Bool.not_true, Bool.not_false, decide_true, decide_false, ne_eq, not_false_eq_true, not_true_eq_false, hp1]
    refine ⟨_, lookup_rdT keyS und70 und9 tyf3 hv hmv name true, ?_⟩
    rw [lk_perm hpv (MapIs.nodup hmv), lk_dirK]
    cases hg : dget name D.seen with
    | some n =>
      rw [hg] at hK
      simp only [Option.map_some, Option.getD_some, Option.isSome_some]
      simp only [cellH_mk, cellO_some, add_mk, size_upd, upd_upd, one_int, one_bool, one_string, one_pointer, one_slice, one_map, one_func, st1_some, stN_nil, stN_cons, StV_mk, StO_some, Ld_some, RtI_mk, RtB_mk, RtS_mk, RtP_mk, RtL_mk, RtM_mk, RtA_mk, RtT_mk, NilC_some, New_eq, At_eq, Ck_true, Rt0_mk, BrB_true, BrB_false, Nat.zero_add, List.length_cons, List.length_nil, List.getElem?_cons_zero, List.getElem?_cons_succ, List.set_cons_zero, List.set_cons_succ, List.getD_cons_zero, List.getD_cons_succ, Option.isNone_some, Option.isNone_none, Go.Disk.fsO, Go.Disk.fileO, Bool.false_eq_true, eq_self, Nat.reduceAdd, Nat.reduceSub, Nat.reduceMul, Nat.reduceLT, Nat.reduceLeDiff, Nat.reduceEqDiff, Int.reduceNeg, Int.reduceEq, Int.reduceNe, Int.reduceBEq, Int.reduceBNe, Int.reduceLT, Int.reduceLE, Int.reduceGT, Int.reduceAdd, reduceIte, Bool.not_true, Bool.not_false, decide_true, decide_false, ne_eq, not_false_eq_true, not_true_eq_false]
      exact hK H1 C1 ⟨x, rfl, h1⟩ hev1'
    | none =>
      rw [hg, if_neg (by simp)] at hK
      simp only [Option.map_none, Option.getD_none, Option.isSome_none]
      simp only [cellH_mk, cellO_some, add_mk, size_upd, upd_upd, one_int, one_bool, one_string, one_pointer, one_slice, one_map, one_func, st1_some, stN_nil, stN_cons, StV_mk, StO_some, Ld_some, RtI_mk, RtB_mk, RtS_mk, RtP_mk, RtL_mk, RtM_mk, RtA_mk, RtT_mk, NilC_some, New_eq, At_eq, Ck_true, Rt0_mk, BrB_true, BrB_false, Nat.zero_add, List.length_cons, List.length_nil, List.getElem?_cons_zero, List.getElem?_cons_succ, List.set_cons_zero, List.set_cons_succ, List.getD_cons_zero, List.getD_cons_succ, Option.isNone_some, Option.isNone_none, Go.Disk.fsO, Go.Disk.fileO, Bool.false_eq_true, eq_self, Nat.reduceAdd, Nat.reduceSub, Nat.reduceMul, Nat.reduceLT, Nat.reduceLeDiff, Nat.reduceEqDiff, Int.reduceNeg, Int.reduceEq, Int.reduceNe, Int.reduceBEq, Int.reduceBNe, Int.reduceLT, Int.reduceLE, Int.reduceGT, Int.reduceAdd, reduceIte, Bool.not_true, Bool.not_false, decide_true, decide_false, ne_eq, not_false_eq_true, not_true_eq_false, hp1]
      refine ⟨_, mapLen_rd und70 hv hmv, ?_⟩
      have hlen : kvs.length = D.seen.length := by rw [hpv.length_eq]; simp [dirK]
      rw [hlen]
      simp only [cellH_mk, cellO_some, add_mk, size_upd, upd_upd, one_int, one_bool, one_string, one_pointer, one_slice, one_map, one_func, st1_some, stN_nil, stN_cons, StV_mk, StO_some, Ld_some, RtI_mk, RtB_mk, RtS_mk, RtP_mk, RtL_mk, RtM_mk, RtA_mk, RtT_mk, NilC_some, New_eq, At_eq, Ck_true, Rt0_mk, BrB_true, BrB_false, Nat.zero_add, List.length_cons, List.length_nil, List.getElem?_cons_zero, List.getElem?_cons_succ, List.set_cons_zero, List.set_cons_succ, List.getD_cons_zero, List.getD_cons_succ, Option.isNone_some, Option.isNone_none, Go.Disk.fsO, Go.Disk.fileO, Bool.false_eq_true, eq_self, Nat.reduceAdd, Nat.reduceSub, Nat.reduceMul, Nat.reduceLT, Nat.reduceLeDiff, Nat.reduceEqDiff, Int.reduceNeg, Int.reduceEq, Int.reduceNe, Int.reduceBEq, Int.reduceBNe, Int.reduceLT, Int.reduceLE, Int.reduceGT, Int.reduceAdd, reduceIte, Bool.not_true, Bool.not_false, decide_true, decide_false, ne_eq, not_false_eq_true, not_true_eq_false]
      refine BrB_i (fun hb => ?_) (fun hb => ?_)
      · rw [if_pos (by have := of_decide_eq_true hb; omega)] at hK
        exact hK H1 C1 ⟨x, rfl, h1⟩ hev1'
      have hb := of_decide_eq_false hb
      rw [if_neg (by omega)] at hK
      have hnf := hD.nfiles
      have w1 : IntKind.wrap .i64 ((D.files.length : Int) + 1) = (D.files.length : Int) + 1 := w64 (by omega) (by omega)
      simp only [cellH_mk, cellO_some, add_mk, size_upd, upd_upd, one_int, one_bool, one_string, one_pointer, one_slice, one_map, one_func, st1_some, stN_nil, stN_cons, StV_mk, StO_some, Ld_some, RtI_mk, RtB_mk, RtS_mk, RtP_mk, RtL_mk, RtM_mk, RtA_mk, RtT_mk, NilC_some, New_eq, At_eq, Ck_true, Rt0_mk, BrB_true, BrB_false, Nat.zero_add, List.length_cons, List.length_nil, List.getElem?_cons_zero, List.getElem?_cons_succ, List.set_cons_zero, List.set_cons_succ, List.getD_cons_zero, List.getD_cons_succ, Option.isNone_some, Option.isNone_none, Go.Disk.fsO, Go.Disk.fileO, Bool.false_eq_true, eq_self, Nat.reduceAdd, Nat.reduceSub, Nat.reduceMul, Nat.reduceLT, Nat.reduceLeDiff, Nat.reduceEqDiff, Int.reduceNeg, Int.reduceEq, Int.reduceNe, Int.reduceBEq, Int.reduceBNe, Int.reduceLT, Int.reduceLE, Int.reduceGT, Int.reduceAdd, reduceIte, Bool.not_true, Bool.not_false, decide_true, decide_false, ne_eq, not_false_eq_true, not_true_eq_false, hp1, get_upd_self, hl1]
      rw [w1]
      generalize hO2 : Obj.cells _ _ _ = o2
      have hev2 : Ev (at1 (k, 0)) H1 C1 (upd H1 x.p o2) C1 := ev_upd h1.cp _
      have hp2 : (upd H1 x.p o2)[x.p]? = some o2 := get_upd_of hp1
      have f2 := h1.files.ev hev2 (at1_no0 hk) (at1_ne (by omega)) fun j hj => at1_ne (by omega)
      have su2 := h1.sure.ev hev2 (at1_ne (by omega))
      have se2 := h1.seen.ev hev2 (at1_ne (by omega))
      have r2 := h1.row.ev hev2 (at1_ne (by omega))
      have hsz : H1.size = (upd H1 x.p o2).size := (size_upd _ _ _).symm
      generalize hH2 : upd H1 x.p o2 = H2 at *
      simp only [cellH_mk, cellO_some, add_mk, size_upd, upd_upd, one_int, one_bool, one_string, one_pointer, one_slice, one_map, one_func, st1_some, stN_nil, stN_cons, StV_mk, StO_some, Ld_some, RtI_mk, RtB_mk, RtS_mk, RtP_mk, RtL_mk, RtM_mk, RtA_mk, RtT_mk, NilC_some, New_eq, At_eq, Ck_true, Rt0_mk, BrB_true, BrB_false, Nat.zero_add, List.length_cons, List.length_nil, List.getElem?_cons_zero, List.getElem?_cons_succ, List.set_cons_zero, List.set_cons_succ, List.getD_cons_zero, List.getD_cons_succ, Option.isNone_some, Option.isNone_none, Go.Disk.fsO, Go.Disk.fileO, Bool.false_eq_true, eq_self, Nat.reduceAdd, Nat.reduceSub, Nat.reduceMul, Nat.reduceLT, Nat.reduceLeDiff, Nat.reduceEqDiff, Int.reduceNeg, Int.reduceEq, Int.reduceNe, Int.reduceBEq, Int.reduceBNe, Int.reduceLT, Int.reduceLE, Int.reduceGT, Int.reduceAdd, reduceIte, Bool.not_true, Bool.not_false, decide_true, decide_false, ne_eq, not_false_eq_true, not_true_eq_false, NewN_eq]
      rw [hsz]
      have hev3 := ev_push no H2 C1 (fileO (none, 0, 0) (none, 0, 0) (none, 0, 0)) (k, 6 + 2 * D.files.length)
      have hnb3 : (H2.push (fileO (none, 0, 0) (none, 0, 0) (none, 0, 0)))[H2.size]? = some (fileO (none, 0, 0) (none, 0, 0) (none, 0, 0)) := get_push_self _ _
      have hc3 : setC C1 H2.size (k, 6 + 2 * D.files.length) H2.size = (k, 6 + 2 * D.files.length) := setC_self _ _ _
      have hp3 := hev3.get hp2 fun h => h
      have hcp3 := (hev3.colOf hp2).trans h1.cp
      have f3 := f2.ev hev3 (fun _ _ h => h) (fun h => h) fun _ _ h => h
      have su3 := su2.ev hev3 fun h => h
      have se3 := se2.ev hev3 fun h => h
      have r3 := r2.ev hev3 fun h => h
      unfold fileO at hev3 hnb3 hp3 f3 su3 se3 r3
      generalize hH3 : H2.push _ = H3 at *
      generalize hC3 : setC C1 H2.size _ = C3 at *
      obtain ⟨hcf, ⟨of, kfs, hf, hmf, hpf⟩, hfl, hfs⟩ := f3
      rw [← hO2] at hp3
      simp only [cellH_mk, cellO_some, add_mk, size_upd, upd_upd, one_int, one_bool, one_string, one_pointer, one_slice, one_map, one_func, st1_some, stN_nil, stN_cons, StV_mk, StO_some, Ld_some, RtI_mk, RtB_mk, RtS_mk, RtP_mk, RtL_mk, RtM_mk, RtA_mk, RtT_mk, NilC_some, New_eq, At_eq, Ck_true, Rt0_mk, BrB_true, BrB_false, Nat.zero_add, List.length_cons, List.length_nil, List.getElem?_cons_zero, List.getElem?_cons_succ, List.set_cons_zero, List.set_cons_succ, List.getD_cons_zero, List.getD_cons_succ, Option.isNone_some, Option.isNone_none, Go.Disk.fsO, Go.Disk.fileO, Bool.false_eq_true, eq_self, Nat.reduceAdd, Nat.reduceSub, Nat.reduceMul, Nat.reduceLT, Nat.reduceLeDiff, Nat.reduceEqDiff, Int.reduceNeg, Int.reduceEq, Int.reduceNe, Int.reduceBEq, Int.reduceBNe, Int.reduceLT, Int.reduceLE, Int.reduceGT, Int.reduceAdd, reduceIte, Bool.not_true, Bool.not_false, decide_true, decide_false, ne_eq, not_false_eq_true, not_true_eq_false, hp3]
      refine mapUpdateK keyInt und69 und3 hf hmf ((D.files.length : Int) + 1) _ fun o' ho' => ?_
      have hev4 : Ev (at1 (k, 1)) H3 C3 (upd H3 x.mf o') C3 := ev_upd hcf _
      have hnk : ((D.files.length : Int) + 1) ∉ kfs.map (·.1) := by
        intro hm
        have hm2 := (hpf.map (·.1)).mem_iff.1 hm
        have := filK_keys _ _ _ hm2
        rw [hfl] at this
        omega
      rw [ins_new hnk] at ho'
      have hp4 := hev4.get hp3 (by rw [hcp3]; exact at1_ne (by omega))
      have hnb4 := hev4.get hnb3 (by rw [hc3]; exact at1_ne (by omega))
      have hF : FilesAt (upd H3 x.mf o') C3 k x.mf (x.fbs ++ [H2.size]) (D.files ++ [⟨[], [], []⟩]) := by
        refine ⟨hcf, ⟨o', _, get_upd_of hf, ho', ?_⟩, by simp [hfl], fun i fb f q1 q2 => ?_⟩
        · rw [filK_append, hfl, Nat.zero_add]
          exact hpf.append_right _
        · by_cases hi : i < D.files.length
          · rw [List.getElem?_append_left (by omega)] at q1
            rw [List.getElem?_append_left hi] at q2
            exact (hfs i fb f q1 q2).ev hev4 (at1_no0 hk) (at1_ne (by omega)) (at1_ne (by omega))
          · have hi2 : i = D.files.length := by
              have := (List.getElem?_eq_some_iff.1 q2).1
              simp at this; omega
            subst hi2
            rw [List.getElem?_append_right (by omega), hfl, Nat.sub_self] at q1
            rw [List.getElem?_append_right (by omega), Nat.sub_self] at q2
            simp only [List.getElem?_cons_zero, Option.some.injEq] at q1 q2
            subst q1 q2
            exact ⟨hc3, (none, 0, 0), (none, 0, 0), (none, 0, 0), [], hnb4, SlI.nil _ _ _, SlI.nil _ _ _, SlO.nil _ _ _ _ _, rfl, rfl⟩
      have h4 : FsAt (upd H3 x.mf o') C3 k { x with fbs := x.fbs ++ [H2.size] } { D with files := D.files ++ [⟨[], [], []⟩] } D.used :=
        ⟨hcp3, by rw [hp4, fsX]; simp, hF, su3.ev hev4 (at1_ne (by omega)), se3.ev hev4 (at1_ne (by omega)), r3.ev hev4 (at1_ne (by omega))⟩
      simp only [cellH_mk, cellO_some, add_mk, size_upd, upd_upd, one_int, one_bool, one_string, one_pointer, one_slice, one_map, one_func, st1_some, stN_nil, stN_cons, StV_mk, StO_some, Ld_some, RtI_mk, RtB_mk, RtS_mk, RtP_mk, RtL_mk, RtM_mk, RtA_mk, RtT_mk, NilC_some, New_eq, At_eq, Ck_true, Rt0_mk, BrB_true, BrB_false, Nat.zero_add, List.length_cons, List.length_nil, List.getElem?_cons_zero, List.getElem?_cons_succ, List.set_cons_zero, List.set_cons_succ, List.getD_cons_zero, List.getD_cons_succ, Option.isNone_some, Option.isNone_none, Go.Disk.fsO, Go.Disk.fileO, Bool.false_eq_true, eq_self, Nat.reduceAdd, Nat.reduceSub, Nat.reduceMul, Nat.reduceLT, Nat.reduceLeDiff, Nat.reduceEqDiff, Int.reduceNeg, Int.reduceEq, Int.reduceNe, Int.reduceBEq, Int.reduceBNe, Int.reduceLT, Int.reduceLE, Int.reduceGT, Int.reduceAdd, reduceIte, Bool.not_true, Bool.not_false, decide_true, decide_false, ne_eq, not_false_eq_true, not_true_eq_false, hp4]
      have hln : ({ D with files := D.files ++ [⟨[], [], []⟩] } : Disk).files.length = D.files.length + 1 := by simp
      have hm : MvOk ({ D with files := D.files ++ [⟨[], [], []⟩] } : Disk).files.length ⟨0, str [], name, D.files.length⟩ D.seen :=
        ⟨by show 0 ≤ 2; omega, fun _ => ⟨by rw [hln]; show D.files.length < _; omega, hg⟩, fun h => absurd rfl h⟩
      have ec : mvCells ⟨0, str [], name, D.files.length⟩ = [.int .i64 0, .string (str []), .string name, .int .i64 ((D.files.length : Int) + 1)] := rfl
      have hrw := hD.row
      have hdo : DirOk ({ D with files := D.files ++ [⟨[], [], []⟩] } : Disk).files.length D.seen := hD.seen.mono (by rw [hln]; omega)
      rw [← ec]
      refine turn_ok (x := { x with fbs := x.fbs ++ [H2.size] }) (D := { D with files := D.files ++ [⟨[], [], []⟩] }) hk h4 hD.seen.1 hm (hm.app hdo fun _ => by omega) (flen_snoc (flen_le hD) (by simp)) (by show D.acts < _; omega) (by show D.row.length ≤ _; omega) hD.fuse hd fun H5 C5 h5 hev5 => ?_
      simp only [cellH_mk, cellO_some, add_mk, size_upd, upd_upd, one_int, one_bool, one_string, one_pointer, one_slice, one_map, one_func, st1_some, stN_nil, stN_cons, StV_mk, StO_some, Ld_some, RtI_mk, RtB_mk, RtS_mk, RtP_mk, RtL_mk, RtM_mk, RtA_mk, RtT_mk, NilC_some, New_eq, At_eq, Ck_true, Rt0_mk, BrB_true, BrB_false, Nat.zero_add, List.length_cons, List.length_nil, List.getElem?_cons_zero, List.getElem?_cons_succ, List.set_cons_zero, List.set_cons_succ, List.getD_cons_zero, List.getD_cons_succ, Option.isNone_some, Option.isNone_none, Go.Disk.fsO, Go.Disk.fileO, Bool.false_eq_true, eq_self, Nat.reduceAdd, Nat.reduceSub, Nat.reduceMul, Nat.reduceLT, Nat.reduceLeDiff, Nat.reduceEqDiff, Int.reduceNeg, Int.reduceEq, Int.reduceNe, Int.reduceBEq, Int.reduceBNe, Int.reduceLT, Int.reduceLE, Int.reduceGT, Int.reduceAdd, reduceIte, Bool.not_true, Bool.not_false, decide_true, decide_false, ne_eq, not_false_eq_true, not_true_eq_false]
      exact hK H5 C5 h5 (hev1'.trans <| (hev2.mono fun _ => own_of_at1).trans <| (hev3.mono fun _ h => h.elim).trans <| (hev4.mono fun _ => own_of_at1).trans hev5)
end Go.Proofs

namespace Go.Disk
open Go Go.Fx
set_option linter.unusedVariables false

theorem DiskOk.blow {D : Disk} (h : DiskOk D) : DiskOk D.blow :=
  ⟨h.room, fun f hf => ⟨(h.files f hf).1, by have := (h.files f hf).2; show _ ≤ D.acts + 1 + 64; omega⟩, by have := h.nfiles; show _ ≤ D.acts + 1 + 64; exact Nat.le_trans this (by omega), by have := h.row; show _ ≤ D.acts + 1 + 64; exact Nat.le_trans this (by omega), h.path, by have := h.fuse; show D.fuse - 1 < _; omega⟩
theorem turn_dok {D : Disk} {m : Mv} (h : DiskOk D) (hm : MvOk D.files.length m D.seen) (hd : DirOk D.files.length (m.app D.seen)) : DiskOk (D.turnBy m).blow :=
  ⟨h.room, h.blow.files, h.blow.nfiles, by have := h.row; show (D.row ++ [m]).length ≤ D.acts + 1 + 64; simp; omega, h.path.snoc hm hd, h.blow.fuse⟩
theorem files_modify {D : Disk} {n : Nat} {f : FileA} {g : FileA → FileA} {Q : FileA → Prop} (hn : D.files[n]? = some f) (h : ∀ f ∈ D.files, Q f) (hg : Q (g f)) : ∀ f ∈ D.files.modify n g, Q f := by
  intro f' hf'
  obtain ⟨i, hi⟩ := List.getElem?_of_mem hf'
  rw [List.getElem?_modify] at hi
  by_cases e : n = i
  · subst e
    rw [hn] at hi
    simp at hi
    subst hi
    exact hg
  · simp [e] at hi
    exact h f' (List.mem_of_getElem? hi)
theorem chg_dok {D : Disk} {n : Nat} {f : FileA} {c : Chg} (h : DiskOk D) (hn : D.files[n]? = some f) (hc : ChOk c f.now) (hl : (c.app f.now).length ≤ 2 ^ 20) : DiskOk (D.chgBy n c).blow := by
  have hf := h.blow.files
  have hfn := h.files f (List.mem_of_getElem? hn)
  refine ⟨h.room, files_modify hn hf ⟨hfn.1.snoc hc hl, ?_⟩, ?_, h.blow.row, ?_, h.blow.fuse⟩
  · have := hfn.2
    show (f.row ++ [c]).length ≤ D.acts + 1 + 64
    simp; omega
  · show (D.files.modify n _).length ≤ _
    rw [List.length_modify]
    exact h.blow.nfiles
  · show DPath (D.files.modify n _).length _ _ _
    rw [List.length_modify]
    exact h.path
theorem sync_dok {D : Disk} {n : Nat} {f : FileA} (h : DiskOk D) (hn : D.files[n]? = some f) : DiskOk (D.syncBy n) := by
  have hfn := h.files f (List.mem_of_getElem? hn)
  refine ⟨h.room, files_modify hn h.files ⟨⟨rfl, hfn.1.len1⟩, Nat.zero_le _⟩, ?_, h.row, ?_, h.fuse⟩
  · show (D.files.modify n _).length ≤ _
    rw [List.length_modify]
    exact h.nfiles
  · show DPath (D.files.modify n _).length _ _ _
    rw [List.length_modify]
    exact h.path

/-- A deed keeps the disk well, and counts one act at most. -/
def Good (D : Disk) (r : Int × Disk) : Prop := DiskOk r.2 ∧ r.2.acts ≤ D.acts + 1 ∧ D.files.length ≤ r.2.files.length ∧ r.2.room = D.room
theorem Good.same {D : Disk} (h : DiskOk D) (e : Int) : Good D (e, D) := ⟨h, Nat.le_succ _, Nat.le_refl _, rfl⟩
theorem Good.file {name : Name} {D : Disk} {go : Nat → Int × Disk} (h : DiskOk D) (hg : ∀ n f, D.dead = false → dget name D.seen = some n → D.files[n]? = some f → Good D (go n)) : Good D (withFile name D go) := by
  cases hd : D.dead with
  | true => rw [withFile_dead hd]; exact Good.same h _
  | false =>
    cases hn : dget name D.seen with
    | none => rw [withFile_none hd hn]; exact Good.same h _
    | some n =>
      rw [withFile_some hd hn]
      exact hg n _ hd hn (List.getElem?_eq_getElem (h.seen.2.2 _ (dget_mem hn)))
theorem len_modify (fs : List FileA) (n : Nat) (g : FileA → FileA) : fs.length ≤ (fs.modify n g).length := by rw [List.length_modify]; exact Nat.le_refl _

theorem dAppend_good {name : Name} {b : List UInt8} {D : Disk} (h : DiskOk D) : Good D (dAppend name b D) := by
  refine Good.file h fun n f hd hg hn => ?_
  have hu := flen_used hg
  rw [flen_of hn] at hu
  have hr := h.room
  have hfl := flen_le h n
  rw [flen_of hn] at hfl
  split
  · exact Good.same h _
  · rename_i hno
    rw [nowOf_of hn]
    have hsmall : f.now.length + b.length ≤ 2 ^ 20 := by
      by_cases h0 : 0 < b.length
      · have : ¬ ((b.length : Int) > (D.room : Int) - (D.used : Int)) := fun h => hno ⟨h0, h⟩
        omega
      · omega
    refine ⟨chg_dok h hn ⟨Nat.le_refl _, by show b.length ≤ _; omega⟩ ?_, Nat.le_refl _, len_modify _ _ _, rfl⟩
    rw [Chg.app_len (Nat.le_refl _)]
    exact Nat.max_le.2 ⟨hsmall, by omega⟩
theorem dWrite_good {name : Name} {off : Int} {b : List UInt8} {D : Disk} (h : DiskOk D) : Good D (dWrite name off b D) := by
  refine Good.file h fun n f hd hg hn => ?_
  have hu := flen_used hg
  rw [flen_of hn] at hu
  have hr := h.room
  have hfl := flen_le h n
  rw [flen_of hn] at hfl
  rw [nowOf_of hn]
  split
  · exact Good.same h _
  · rename_i hno1
    split
    · exact Good.same h _
    · rename_i hno
      have hof : off.toNat ≤ f.now.length := by omega
      have hsmall : off.toNat + b.length ≤ 2 ^ 20 := by
        by_cases h2 : (b.length : Int) - (f.now.length - off) > 0
        · have : ¬ ((b.length : Int) - (f.now.length - off) > (D.room : Int) - (D.used : Int)) := fun h => hno ⟨h2, h⟩
          omega
        · omega
      refine ⟨chg_dok h hn ⟨hof, by show b.length ≤ _; omega⟩ ?_, Nat.le_refl _, len_modify _ _ _, rfl⟩
      rw [Chg.app_len hof]
      exact Nat.max_le.2 ⟨hsmall, by omega⟩
theorem dCut_good {name : Name} {off : Int} {D : Disk} (h : DiskOk D) : Good D (dCut name off D) := by
  refine Good.file h fun n f hd hg hn => ?_
  have hfl := flen_le h n
  rw [flen_of hn] at hfl
  rw [nowOf_of hn]
  split
  · exact Good.same h _
  · rename_i hno
    have hof : off.toNat ≤ f.now.length := by omega
    refine ⟨chg_dok h hn ⟨hof, by simp⟩ ?_, Nat.le_refl _, len_modify _ _ _, rfl⟩
    rw [Chg.app_len hof]
    show off.toNat ≤ _
    omega
theorem dRename_good {src dst : Name} {D : Disk} (h : DiskOk D) : Good D (dRename src dst D) := by
  refine Good.file h fun n f hd hg hn => ?_
  split
  · exact Good.same h _
  · have hm : MvOk D.files.length ⟨1, src, dst, 0⟩ D.seen := ⟨by show 1 ≤ 2; omega, fun h => (nomatch h), fun _ => by show dget src D.seen ≠ none; rw [hg]; simp⟩
    exact ⟨turn_dok h hm (hm.app h.seen fun h => (nomatch h)), Nat.le_refl _, Nat.le_refl _, rfl⟩
theorem dRemove_good {name : Name} {D : Disk} (h : DiskOk D) : Good D (dRemove name D) := by
  refine Good.file h fun n f hd hg hn => ?_
  have hm : MvOk D.files.length ⟨2, name, str [], 0⟩ D.seen := ⟨by show 2 ≤ 2; omega, fun h => (nomatch h), fun _ => by show dget name D.seen ≠ none; rw [hg]; simp⟩
  exact ⟨turn_dok h hm (hm.app h.seen fun h => (nomatch h)), Nat.le_refl _, Nat.le_refl _, rfl⟩
theorem dSync_good {name : Name} {D : Disk} (h : DiskOk D) : Good D (dSync name D) := by
  refine Good.file h fun n f hd hg hn => ?_
  split
  · exact ⟨h.blow, Nat.le_refl _, Nat.le_refl _, rfl⟩
  · exact ⟨sync_dok h.blow (f := f) hn, Nat.le_refl _, len_modify _ _ _, rfl⟩
theorem dSyncDir_good {D : Disk} (h : DiskOk D) : Good D (dSyncDir D) := by
  unfold dSyncDir
  split
  · exact Good.same h _
  · split
    · exact ⟨h.blow, Nat.le_refl _, Nat.le_refl _, rfl⟩
    · exact ⟨⟨h.room, h.blow.files, h.blow.nfiles, Nat.zero_le _, ⟨rfl, h.seen⟩, h.blow.fuse⟩, Nat.le_refl _, Nat.le_refl _, rfl⟩
theorem dArm_good {n : Int} {D : Disk} (hn : n < 2 ^ 63) (h : DiskOk D) : Good D (dArm n D) := by
  unfold dArm
  split
  · exact Good.same h _
  · split
    · exact Good.same h _
    · exact ⟨⟨h.room, h.files, h.nfiles, h.row, h.path, by show n.toNat < _; omega⟩, by show D.acts ≤ _; omega, Nat.le_refl _, rfl⟩
theorem dCreate_good {name : Name} {D : Disk} (h : DiskOk D) : Good D (dCreate name D) := by
  unfold dCreate
  split
  · exact Good.same h _
  split
  · exact Good.same h _
  split
  · exact Good.same h _
  split
  · exact Good.same h _
  rename_i h1 h2 hg hb
  have hg : dget name D.seen = none := by
    cases hx : dget name D.seen with
    | none => rfl
    | some n => rw [hx] at hg; exact absurd rfl hg
  have hln : (D.files ++ [(⟨[], [], []⟩ : FileA)]).length = D.files.length + 1 := by simp
  have hm : MvOk (D.files ++ [(⟨[], [], []⟩ : FileA)]).length ⟨0, str [], name, D.files.length⟩ D.seen := ⟨by show 0 ≤ 2; omega, fun _ => ⟨by rw [hln]; show D.files.length < _; omega, hg⟩, fun h => absurd rfl h⟩
  have hdo : DirOk (D.files ++ [(⟨[], [], []⟩ : FileA)]).length D.seen := h.seen.mono (by rw [hln]; omega)
  refine ⟨⟨h.room, fun f hf => ?_, ?_, ?_, ?_, h.blow.fuse⟩, Nat.le_refl _, ?_, rfl⟩
  · rcases List.mem_append.1 hf with hf | hf
    · exact h.blow.files f hf
    · simp only [List.mem_singleton] at hf
      subst hf
      exact ⟨⟨rfl, by simp⟩, Nat.zero_le _⟩
  · have := h.nfiles
    show (D.files ++ [(⟨[], [], []⟩ : FileA)]).length ≤ D.acts + 1 + 64
    omega
  · have := h.row
    show (D.row ++ [_]).length ≤ D.acts + 1 + 64
    simp; omega
  · show DPath (D.files ++ [(⟨[], [], []⟩ : FileA)]).length D.sure (D.row ++ [⟨0, str [], name, D.files.length⟩]) (Mv.app ⟨0, str [], name, D.files.length⟩ D.seen)
    exact (h.path.mono (by rw [hln]; omega)).snoc hm (hm.app hdo fun _ => by omega)
  · show D.files.length ≤ (D.files ++ [(⟨[], [], []⟩ : FileA)]).length
    omega
theorem new_dok {room : Nat} (h : room ≤ 2 ^ 20) : DiskOk (newDisk room) where
  room := h
  files := fun f hf => absurd hf (by simp [newDisk])
  nfiles := Nat.zero_le _
  row := Nat.zero_le _
  path := (show DPath 0 [] [] [] from ⟨rfl, List.Pairwise.nil, Nat.zero_le _, fun p hp => absurd hp (by simp)⟩)
  fuse := by show 0 < _; omega
end Go.Disk

namespace Go.Proofs
open Go.Shelf
def Try.lays192_ren : Go.Shelf.Ren := ⟨fun | 192 => 82 | 190 => 93 | 125 => 95 | 258 => 94 | 128 => 105 | 129 => 106 | 302 => 96 | 303 => 97 | 304 => 98 | 305 => 99 | 306 => 100 | 307 => 101 | 308 => 102 | 309 => 103 | 310 => 104 | 333 => 107 | 329 => 108 | 330 => 109 | 334 => 110 | 335 => 111 | 336 => 112 | 344 => 113 | n => n, fun | 31 => 43 | 0 => 0 | 9 => 9 | 3 => 3 | 46 => 127 | 51 => 137 | 53 => 92 | 4 => 4 | 183 => 130 | 182 => 129 | 131 => 78 | 5 => 5 | 218 => 139 | 222 => 143 | 228 => 145 | 229 => 146 | n => n, fun | n => n⟩
theorem Try.lays192 : Go.Proofs.Lays.n192 Try.prog Try.lays192_ren := {
  mixed := by kernel_rfl
  f125 := Try.func95.trans (congrArg some (by kernel_rfl))
  f128 := Try.func105.trans (congrArg some (by kernel_rfl))
  f129 := Try.func106.trans (congrArg some (by kernel_rfl))
  f190 := Try.func93.trans (congrArg some (by kernel_rfl))
  f192 := Try.func82.trans (congrArg some (by kernel_rfl))
  f258 := Try.func94.trans (congrArg some (by kernel_rfl))
  f302 := Try.func96.trans (congrArg some (by kernel_rfl))
  f303 := Try.func97.trans (congrArg some (by kernel_rfl))
  f304 := Try.func98.trans (congrArg some (by kernel_rfl))
  f305 := Try.func99.trans (congrArg some (by kernel_rfl))
  f306 := Try.func100.trans (congrArg some (by kernel_rfl))
  f307 := Try.func101.trans (congrArg some (by kernel_rfl))
  f308 := Try.func102.trans (congrArg some (by kernel_rfl))
  f309 := Try.func103.trans (congrArg some (by kernel_rfl))
  f310 := Try.func104.trans (congrArg some (by kernel_rfl))
  f329 := Try.func108.trans (congrArg some (by kernel_rfl))
  f330 := Try.func109.trans (congrArg some (by kernel_rfl))
  f333 := Try.func107.trans (congrArg some (by kernel_rfl))
  f334 := Try.func110.trans (congrArg some (by kernel_rfl))
  f335 := Try.func111.trans (congrArg some (by kernel_rfl))
  f336 := Try.func112.trans (congrArg some (by kernel_rfl))
  f344 := Try.func113.trans (congrArg some (by kernel_rfl))
  t0 := Try.underlying0
  a0 := Try.isAgg0
  z0 := Try.sizeOf0
  v0 := Try.zeroValue0
  t3 := Try.underlying3
  a3 := Try.isAgg3
  z3 := Try.sizeOf3
  v3 := Try.zeroValue3
  t4 := Try.underlying4
  a4 := Try.isAgg4
  z4 := Try.sizeOf4
  v4 := Try.zeroValue4
  t5 := Try.underlying5
  a5 := Try.isAgg5
  z5 := Try.sizeOf5
  v5 := Try.zeroValue5
  t9 := Try.underlying9
  a9 := Try.isAgg9
  z9 := Try.sizeOf9
  v9 := Try.zeroValue9
  t31 := Try.underlying43
  a31 := Try.isAgg43
  z31 := Try.sizeOf43
  v31 := Try.zeroValue43
  t46 := Try.underlying127
  a46 := Try.isAgg127
  z46 := Try.sizeOf127
  v46 := Try.zeroValue127
  t51 := Try.underlying137
  a51 := Try.isAgg137
  z51 := Try.sizeOf137
  v51 := Try.zeroValue137
  t53 := Try.underlying92
  a53 := Try.isAgg92
  z53 := Try.sizeOf92
  v53 := Try.zeroValue92
  t131 := Try.underlying78
  a131 := Try.isAgg78
  z131 := Try.sizeOf78
  v131 := Try.zeroValue78
  t182 := Try.underlying129
  a182 := Try.isAgg129
  z182 := Try.sizeOf129
  v182 := Try.zeroValue129
  t183 := Try.underlying130
  a183 := Try.isAgg130
  z183 := Try.sizeOf130
  v183 := Try.zeroValue130
  t218 := Try.underlying139
  a218 := Try.isAgg139
  z218 := Try.sizeOf139
  v218 := Try.zeroValue139
  t222 := Try.underlying143
  a222 := Try.isAgg143
  z222 := Try.sizeOf143
  v222 := Try.zeroValue143
  t228 := Try.underlying145
  a228 := Try.isAgg145
  z228 := Try.sizeOf145
  v228 := Try.zeroValue145
  t229 := Try.underlying146
  a229 := Try.isAgg146
  z229 := Try.sizeOf146
  v229 := Try.zeroValue146 }
end Go.Proofs
namespace Go.Proofs
open Go Go.Shelf Go.Sort Go.RowKit
theorem sort_raw (blk off cap : Nat) (ss : List (List UInt8)) (w : World) (hH : Holds encStr w blk off ss.toArray) (hblk : blk < w.heap.size) (hsz : ss.length < 4611686018427387904) :
    Calls Try.prog 82 #[.slice (some ⟨blk, off, none⟩) ss.length cap] w fun e w' =>
      e = .returned (.tuple #[]) ∧ ∃ n os, w' = grow (putRow encStr (Sort.ahead w n) blk off (ss.mergeSort fun x y => decide (x ≤ y)).toArray) os :=
  Any.sort_Strings Try.lays192 blk off cap ss w hH hblk hsz
end Go.Proofs

namespace Go.Proofs
open Go Go.Fx Go.Disk
set_option linter.unusedVariables false
set_option maxRecDepth 20000
theorem sort_is : isFnB Try.prog 82 = true := by kernel_rfl
theorem sort_ok {H : Heap} {b n c : Nat} {cs : List Value} {t : TypeId} {ss : List (List UInt8)} {K : Value → Heap → Prop}
    (hb : H[b]? = some (.cells ⟨cs⟩ t (0, 0))) (hn : ss.length = n) (hle : n ≤ cs.length) (hcs : cs.take n = ss.map encStr) (hn2 : n < 2 ^ 61)
    (hK : ∀ os : Array Obj, K (.tuple ⟨[]⟩) (upd H b (.cells ⟨(ss.mergeSort fun x y => decide (x ≤ y)).map encStr ++ cs.drop n⟩ t (0, 0)) ++ os)) :
    Fn 82 [.slice (some ⟨b, 0, none⟩) n c] H K := by
  refine ⟨sort_is, fun w hw => ?_⟩
  subst hw
  have hget : ∀ j, j < ss.length → cs[j]? = some (encStr ss[j]!) := by
    intro j hj
    have h1 : (cs.take n)[j]? = cs[j]? := by rw [List.getElem?_take, if_pos (by omega)]
    rw [← h1, hcs, List.getElem?_map, List.getElem?_eq_getElem hj]
    simp [hj]
  have hraw := sort_raw b 0 c ss w ?_ (lt_of_get hb) (by omega)
  · rw [hn] at hraw
    refine hraw.mono ?_
    rintro e w' ⟨rfl, m, os, rfl⟩
    refine ⟨_, rfl, ⟨rfl, rfl⟩, ?_⟩
    have hheap : (Sort.putRow encStr (Sort.ahead w m) b 0 (ss.mergeSort fun x y => decide (x ≤ y)).toArray).heap = upd w.heap b (.cells ⟨(ss.mergeSort fun x y => decide (x ≤ y)).map encStr ++ cs.drop n⟩ t (0, 0)) := by
      generalize hS : (ss.mergeSort fun x y => decide (x ≤ y)) = S
      have hSl : S.length = n := by rw [← hS, List.length_mergeSort]; exact hn
      have hcells : Sort.putCells encStr 0 S.toArray ⟨cs⟩ = ⟨S.map encStr ++ cs.drop n⟩ := by
        apply Array.ext'
        refine List.ext_getElem? fun j => ?_
        show (Array.mapIdx _ (⟨cs⟩ : Array Value)).toList[j]? = (S.map encStr ++ cs.drop n)[j]?
        rw [Array.getElem?_toList, Array.getElem?_mapIdx]
        by_cases hj : j < n
        · rw [List.getElem?_append_left (by simpa [hSl] using hj), List.getElem?_map, List.getElem?_eq_getElem (by omega)]
          simp [show j < cs.length from by omega, hSl, hj]
        · rw [List.getElem?_append_right (by rw [List.length_map, hSl]; omega), List.length_map, hSl, List.getElem?_drop, show n + (j - n) = j from by omega]
          simp [hSl, hj]
      show w.heap.modify b (Sort.onCells (Sort.putCells encStr 0 S.toArray)) = _
      refine Array.ext_getElem? fun i => ?_
      rw [Array.getElem?_modify]
      by_cases e : b = i
      · subst e
        rw [if_pos rfl, hb, get_upd_of hb]
        show some (Obj.cells (Sort.putCells encStr 0 S.toArray ⟨cs⟩) t (0, 0)) = _
        rw [hcells]
      · rw [if_neg e, get_upd_ne _ e]
    show K _ ((Sort.putRow encStr (Sort.ahead w m) b 0 (ss.mergeSort fun x y => decide (x ≤ y)).toArray).heap ++ os)
    rw [hheap]
    exact hK os
  · intro j hj
    have hj' : j < ss.length := by simpa using hj
    refine ⟨?_, ?_⟩
    · rw [cellH_eq, cellH_mk, hb, cellO_some, Nat.zero_add, hget j hj']
      simp [hj']
    · rw [frozenH_eq]
      unfold frozenH
      rw [show (⟨b, 0 + j, none⟩ : Addr).block = b from rfl, hb]
      simp
end Go.Proofs

namespace Go.Disk
open Go Go.Fx
set_option linter.unusedVariables false
theorem le_of_bl {x y : List UInt8} (h : Op.bytesLess y x = false) : x ≤ y := by
  rw [Go.Proofs.bytesLess_eq] at h
  exact List.not_lt.1 (of_decide_eq_false h)
def dNames (d : Dir) : List (List UInt8) := d.map fun p => p.1.toList
theorem names_sorted {d : Dir} (h : DSort d) {l : List (List UInt8)} (hp : l.Perm (dNames d)) : (l.mergeSort fun x y => decide (x ≤ y)) = dNames d := by
  have h1 : (l.mergeSort fun x y => decide (x ≤ y)).Perm (dNames d) := (List.mergeSort_perm _ _).trans hp
  have h2 : (l.mergeSort fun x y => decide (x ≤ y)).Pairwise (fun x y => x ≤ y) := by
    have := List.pairwise_mergeSort (le := fun x y : List UInt8 => decide (x ≤ y)) (fun a b c h1 h2 => decide_eq_true (List.le_trans (of_decide_eq_true h1) (of_decide_eq_true h2))) (fun a b => by
      have := List.le_total a b
      simpa using this) l
    exact this.imp fun h => of_decide_eq_true h
  have h3 : (dNames d).Pairwise (fun x y => x ≤ y) := by
    unfold dNames
    rw [List.pairwise_map]
    have := List.pairwise_map.1 h
    refine this.imp fun {a b} hab => ?_
    have : Op.bytesLess a.1.toList b.1.toList = true := hab
    refine le_of_bl ?_
    cases hx : Op.bytesLess b.1.toList a.1.toList with
    | false => rfl
    | true => have := bl_trans this hx; rw [bl_irrefl] at this; cases this
  exact h1.eq_of_pairwise (fun a b _ _ h1 h2 => List.le_antisymm h1 h2) h2 h3
end Go.Disk

namespace Go.Proofs
open Go Go.Fx Go.Disk
set_option linter.unusedVariables false
set_option maxRecDepth 20000
theorem sort_none {H : Heap} {a : Option Addr} {c : Nat} {K : Value → Heap → Prop} (hK : K (.tuple ⟨[]⟩) H) : Fn 82 [.slice a 0 c] H K := by
  refine ⟨sort_is, fun w hw => ?_⟩
  subst hw
  refine (Any.sort_Strings_none Try.lays192 a c w).mono ?_
  rintro e w' ⟨rfl, rfl⟩
  exact ⟨_, rfl, SameOut.refl _, hK⟩
theorem encStr_name (k : Name) : encStr k.toList = .string k := by
  show Value.string ⟨k.toList.toArray⟩ = _
  rw [ByteArray.toList_eq]
theorem get_append {H os : Heap} {b : Nat} {o : Obj} (h : H[b]? = some o) : (H ++ os)[b]? = some o := by
  rw [Array.getElem?_append_left (lt_of_get h)]; exact h
theorem ev_append {S : Lab → Prop} {H H' : Heap} {C C' : Col} (h : Ev S H C H' C') (os : Heap) : Ev S H C (H' ++ os) C' :=
  ⟨by have := h.size; simp; omega, h.col, fun b hb hn => by
    rw [Array.getElem?_append_left (Nat.lt_of_lt_of_le hb h.size)]; exact h.keep b hb hn⟩

theorem names_ok {H : Heap} {C : Col} {lab lab' : Lab} {m : Nat} {d : Dir} {K : Value → Heap → Prop} (h : DirAt H C lab m d) (hd : DSort d) (hlen : d.length < 2 ^ 30)
    (hK : ∀ a c H' C', SlO H' C' lab' 9 1 a d.length c ((dNames d).map encStr) → Ev no H C H' C' → K (.slice a d.length c) H') : Fn 55 [.map (some m)] H K := by
  refine F55_ok _ ?_
  unfold F55
  obtain ⟨hc, o, ho, kvs, hmo, hp⟩ := h
  have hlt := lt_of_get ho
  obtain ⟨k, hk, hfr⟩ := fresh_own C H.size
  have hkl : kvs.length = d.length := by rw [hp.length_eq]; simp [dirK]
  refine rangeK und70 ho hmo fun o' hit => ?_
  refine ⟨_, rfl, ?_⟩
  have hev1 := ev_push (own k) H C o' (k, 0)
  refine ⟨fun a l c H' => ∃ C' todo, ∃ ks : List Name, IterAt Value.string H' H.size m kvs todo ∧ SlO H' C' (k, 1) 9 1 a l c (ks.map Value.string) ∧ l = ks.length ∧ (ks ++ todo.map (·.1)).Perm (kvs.map (·.1)) ∧ Ev (own k) H C H' C' ∧ C' H.size = (k, 0),
    fun _ _ _ H' => iterLeft H' H.size, ⟨_, kvs, [], hit, SlO.nil _ _ _ _ _, rfl, List.Perm.refl _, hev1, setC_self _ _ _⟩, ?_⟩
  rintro fr a l c H' ⟨C', todo, ks, hI, hsl, hl, hperm, hE, hci⟩
  simp only [cellH_mk, cellO_some, add_mk, size_upd, upd_upd, one_int, one_bool, one_string, one_pointer, one_slice, one_map, one_func, st1_some, stN_nil, stN_cons, StV_mk, StO_some, Ld_some, RtI_mk, RtB_mk, RtS_mk, RtP_mk, RtL_mk, RtM_mk, RtA_mk, RtT_mk, NilC_some, New_eq, At_eq, Ck_true, Rt0_mk, BrB_true, BrB_false, Nat.zero_add, List.length_cons, List.length_nil, List.getElem?_cons_zero, List.getElem?_cons_succ, List.set_cons_zero, List.set_cons_succ, List.getD_cons_zero, List.getD_cons_succ, Option.isNone_some, Option.isNone_none, Go.Disk.fsO, Go.Disk.fileO, Bool.false_eq_true, eq_self, Nat.reduceAdd, Nat.reduceSub, Nat.reduceMul, Nat.reduceLT, Nat.reduceLeDiff, Nat.reduceEqDiff, Int.reduceNeg, Int.reduceEq, Int.reduceNe, Int.reduceBEq, Int.reduceBNe, Int.reduceLT, Int.reduceLE, Int.reduceGT, Int.reduceAdd, reduceIte, Bool.not_true, Bool.not_false, decide_true, decide_false, ne_eq, not_false_eq_true, not_true_eq_false]
  have hkd : ks.length + todo.length = d.length := by
    have := hperm.length_eq
    simp at this
    omega
  refine next_wp hI (fun ht => ?_) fun nm v l1 l2 o2 ht hI2 hent => ?_
  · subst ht
    simp only [List.map_nil, List.append_nil, List.length_nil, Nat.add_zero] at hperm hkd
    have hpn : (ks.map (·.toList)).Perm (dNames d) := by
      have h1 := (hperm.trans (hp.map (·.1))).map (fun b : Name => b.toList)
      rw [dirK_keys, List.map_map] at h1
      exact h1
    have hso := names_sorted hd hpn
    have hcs : ks.map Value.string = (ks.map (·.toList)).map encStr := by
      rw [List.map_map]
      exact List.map_congr_left fun x _ => (encStr_name x).symm
    have hfin : ∀ H2 a2, SlO H2 C' (k, 1) 9 1 a2 d.length c ((dNames d).map encStr) → Ev (own k) H C H2 C' → K (.slice a2 d.length c) H2 := by
      intro H2 a2 h1 h2
      exact hK a2 c H2 _ (h1.recol fun j => if j = 1 then lab' else (0, 0)) (h2.done hfr fun j => if j = 1 then lab' else (0, 0))
    rw [hkd] at hl
    subst hl
    obtain ⟨s1, s2, s3⟩ := hsl
    by_cases h0 : d.length = 0
    · have hd0 : d = [] := List.eq_nil_of_length_eq_zero h0
      subst hd0
      refine sort_none ?_
      simp only [cellH_mk, cellO_some, add_mk, size_upd, upd_upd, one_int, one_bool, one_string, one_pointer, one_slice, one_map, one_func, st1_some, stN_nil, stN_cons, StV_mk, StO_some, Ld_some, RtI_mk, RtB_mk, RtS_mk, RtP_mk, RtL_mk, RtM_mk, RtA_mk, RtT_mk, NilC_some, New_eq, At_eq, Ck_true, Rt0_mk, BrB_true, BrB_false, Nat.zero_add, List.length_cons, List.length_nil, List.getElem?_cons_zero, List.getElem?_cons_succ, List.set_cons_zero, List.set_cons_succ, List.getD_cons_zero, List.getD_cons_succ, Option.isNone_some, Option.isNone_none, Go.Disk.fsO, Go.Disk.fileO, Bool.false_eq_true, eq_self, Nat.reduceAdd, Nat.reduceSub, Nat.reduceMul, Nat.reduceLT, Nat.reduceLeDiff, Nat.reduceEqDiff, Int.reduceNeg, Int.reduceEq, Int.reduceNe, Int.reduceBEq, Int.reduceBNe, Int.reduceLT, Int.reduceLE, Int.reduceGT, Int.reduceAdd, reduceIte, Bool.not_true, Bool.not_false, decide_true, decide_false, ne_eq, not_false_eq_true, not_true_eq_false]
      refine hfin H' a ⟨rfl, s2, ?_⟩ hE
      rcases s3 with s3 | ⟨b, cs, r1, r2, r3, r4, r5⟩
      · exact .inl s3
      · exact .inr ⟨b, cs, r1, r2, r3, r4, by simp [dNames]⟩
    · rcases s3 with ⟨_, h1, _⟩ | ⟨b, cs, rfl, r2, r3, r4, r5⟩
      · exact absurd h1 h0
      · rw [Nat.mul_one] at r5 r4
        refine sort_ok (ss := ks.map (·.toList)) r3 (by rw [List.length_map]; exact hkd) (by omega) (by rw [r5]; exact hcs) (by omega) fun os => ?_
        simp only [cellH_mk, cellO_some, add_mk, size_upd, upd_upd, one_int, one_bool, one_string, one_pointer, one_slice, one_map, one_func, st1_some, stN_nil, stN_cons, StV_mk, StO_some, Ld_some, RtI_mk, RtB_mk, RtS_mk, RtP_mk, RtL_mk, RtM_mk, RtA_mk, RtT_mk, NilC_some, New_eq, At_eq, Ck_true, Rt0_mk, BrB_true, BrB_false, Nat.zero_add, List.length_cons, List.length_nil, List.getElem?_cons_zero, List.getElem?_cons_succ, List.set_cons_zero, List.set_cons_succ, List.getD_cons_zero, List.getD_cons_succ, Option.isNone_some, Option.isNone_none, Go.Disk.fsO, Go.Disk.fileO, Bool.false_eq_true, eq_self, Nat.reduceAdd, Nat.reduceSub, Nat.reduceMul, Nat.reduceLT, Nat.reduceLeDiff, Nat.reduceEqDiff, Int.reduceNeg, Int.reduceEq, Int.reduceNe, Int.reduceBEq, Int.reduceBNe, Int.reduceLT, Int.reduceLE, Int.reduceGT, Int.reduceAdd, reduceIte, Bool.not_true, Bool.not_false, decide_true, decide_false, ne_eq, not_false_eq_true, not_true_eq_false]
        rw [hso]
        refine hfin _ _ ⟨by simp [dNames], s2, .inr ⟨b, _, rfl, r2, get_append (get_upd_of r3), ?_, ?_⟩⟩ (ev_append (hE.trans ((ev_upd r2 _).mono fun _ => own_of_at1)) _)
        · simp only [List.length_append, List.length_map, dNames, List.length_drop]; omega
        · rw [Nat.mul_one, List.take_append_of_le_length (by simp [dNames]), List.take_of_length_le (by simp [dNames])]
  · have hne := hI.ne
    have hcm : C' m = lab := (hE.col m hlt).trans hc
    have hlk : lab.1 ≠ k := by rw [← hc]; exact hfr m hlt
    have hev2 : Ev (at1 (k, 0)) H' C' (upd H' H.size o2) C' := ev_upd hci _
    have hsl2 := hsl.ev hev2 (at1_ne (by omega))
    have hsub : (nm, v) ∈ kvs := by
      obtain ⟨_, _, _, _, _, _, _, hs⟩ := hI
      exact hs.subset (by rw [ht]; simp)
    obtain ⟨i, rfl⟩ : ∃ i : Nat, v = .int .i64 ((i : Int) + 1) := by
      have := hp.mem_iff.1 hsub
      unfold dirK at this
      obtain ⟨q, _, he⟩ := List.mem_map.1 this
      cases he
      exact ⟨q.2, rfl⟩
    refine ⟨_, hent _ (get_upd_of hI.has.choose_spec) (get_upd_ne _ hne), ?_⟩
    simp only [cellH_mk, cellO_some, add_mk, size_upd, upd_upd, one_int, one_bool, one_string, one_pointer, one_slice, one_map, one_func, st1_some, stN_nil, stN_cons, StV_mk, StO_some, Ld_some, RtI_mk, RtB_mk, RtS_mk, RtP_mk, RtL_mk, RtM_mk, RtA_mk, RtT_mk, NilC_some, New_eq, At_eq, Ck_true, Rt0_mk, BrB_true, BrB_false, Nat.zero_add, List.length_cons, List.length_nil, List.getElem?_cons_zero, List.getElem?_cons_succ, List.set_cons_zero, List.set_cons_succ, List.getD_cons_zero, List.getD_cons_succ, Option.isNone_some, Option.isNone_none, Go.Disk.fsO, Go.Disk.fileO, Bool.false_eq_true, eq_self, Nat.reduceAdd, Nat.reduceSub, Nat.reduceMul, Nat.reduceLT, Nat.reduceLeDiff, Nat.reduceEqDiff, Int.reduceNeg, Int.reduceEq, Int.reduceNe, Int.reduceBEq, Int.reduceBNe, Int.reduceLT, Int.reduceLE, Int.reduceGT, Int.reduceAdd, reduceIte, Bool.not_true, Bool.not_false, decide_true, decide_false, ne_eq, not_false_eq_true, not_true_eq_false]
    refine build_oneK und43 tyf9 (by rfl) (by rfl) (by omega) (by omega) ?_
    have hev3 := ev_push no (upd H' H.size o2) C' (.cells (Value.cells (.string nm)) 9) (0, 0)
    have hsrc := SrcH_one (s := 1) (get_push_self (upd H' H.size o2) (.cells (Value.cells (.string nm)) 9)) rfl
    rw [size_upd] at hsrc
    have hsl3 := hsl2.ev hev3 fun h => h
    have hit2 : (upd H' H.size o2)[H.size]? = some o2 := get_upd_of hI.has.choose_spec
    have hmo2 : ∃ om, (upd H' H.size o2)[m]? = some om := by
      obtain ⟨es, clk, seen, q, _⟩ := hI2
      exact ⟨_, q⟩
    obtain ⟨om, hmo2⟩ := hmo2
    generalize hH3 : (upd H' H.size o2).push _ = H3 at *
    generalize hC3 : setC C' (upd H' H.size o2).size (0, 0) = C3 at *
    have hit3 := hev3.get hit2 fun h => h
    have hmo3 := hev3.get hmo2 fun h => h
    have hci3 := (hev3.colOf hit2).trans hci
    have hcm3 := (hev3.colOf hmo2).trans hcm
    have hkl2 : l < 2 ^ 30 := by omega
    simp only [cellH_mk, cellO_some, add_mk, size_upd, upd_upd, one_int, one_bool, one_string, one_pointer, one_slice, one_map, one_func, st1_some, stN_nil, stN_cons, StV_mk, StO_some, Ld_some, RtI_mk, RtB_mk, RtS_mk, RtP_mk, RtL_mk, RtM_mk, RtA_mk, RtT_mk, NilC_some, New_eq, At_eq, Ck_true, Rt0_mk, BrB_true, BrB_false, Nat.zero_add, List.length_cons, List.length_nil, List.getElem?_cons_zero, List.getElem?_cons_succ, List.set_cons_zero, List.set_cons_succ, List.getD_cons_zero, List.getD_cons_succ, Option.isNone_some, Option.isNone_none, Go.Disk.fsO, Go.Disk.fileO, Bool.false_eq_true, eq_self, Nat.reduceAdd, Nat.reduceSub, Nat.reduceMul, Nat.reduceLT, Nat.reduceLeDiff, Nat.reduceEqDiff, Int.reduceNeg, Int.reduceEq, Int.reduceNe, Int.reduceBEq, Int.reduceBNe, Int.reduceLT, Int.reduceLE, Int.reduceGT, Int.reduceAdd, reduceIte, Bool.not_true, Bool.not_false, decide_true, decide_false, ne_eq, not_false_eq_true, not_true_eq_false]
    refine app_ownK (C := C3) (lab := (k, 1)) (new := [.string nm]) und43 und43 (.inl ⟨_, rfl⟩) tyf9 (by rfl) hsrc (by rfl) (by intro v hv; simp at hv; subst hv; rfl) hsl3 (by omega) (by omega) fun a' c' H4 C4 hsl4 hev4 _ => ?_
    simp only [cellH_mk, cellO_some, add_mk, size_upd, upd_upd, one_int, one_bool, one_string, one_pointer, one_slice, one_map, one_func, st1_some, stN_nil, stN_cons, StV_mk, StO_some, Ld_some, RtI_mk, RtB_mk, RtS_mk, RtP_mk, RtL_mk, RtM_mk, RtA_mk, RtT_mk, NilC_some, New_eq, At_eq, Ck_true, Rt0_mk, BrB_true, BrB_false, Nat.zero_add, List.length_cons, List.length_nil, List.getElem?_cons_zero, List.getElem?_cons_succ, List.set_cons_zero, List.set_cons_succ, List.getD_cons_zero, List.getD_cons_succ, Option.isNone_some, Option.isNone_none, Go.Disk.fsO, Go.Disk.fileO, Bool.false_eq_true, eq_self, Nat.reduceAdd, Nat.reduceSub, Nat.reduceMul, Nat.reduceLT, Nat.reduceLeDiff, Nat.reduceEqDiff, Int.reduceNeg, Int.reduceEq, Int.reduceNe, Int.reduceBEq, Int.reduceBNe, Int.reduceLT, Int.reduceLE, Int.reduceGT, Int.reduceAdd, reduceIte, Bool.not_true, Bool.not_false, decide_true, decide_false, ne_eq, not_false_eq_true, not_true_eq_false]
    have hit4 := hev4.get hit3 (by rw [hci3]; exact at1_ne (by omega))
    have hmo4 := hev4.get hmo3 (by rw [hcm3]; intro e; unfold at1 at e; rw [e] at hlk; exact hlk rfl)
    have hI4 : IterAt Value.string H4 H.size m kvs (l1 ++ l2) := hI2.keep (hit4.trans hit2.symm) (hmo4.trans hmo2.symm)
    refine ⟨⟨C4, l1 ++ l2, ks ++ [nm], hI4, by rw [List.map_append]; exact hsl4, by simp [hl], ?_, hE.trans ((hev2.mono fun _ => own_of_at1).trans ((hev3.mono fun _ h => h.elim).trans (hev4.mono fun _ => own_of_at1))), (hev4.colOf hit3).trans hci3⟩, ?_⟩
    · refine List.Perm.trans ?_ hperm
      rw [ht, List.append_assoc]
      refine List.Perm.append_left _ ?_
      simp only [List.map_append, List.map_cons]
      show (nm :: (l1.map (·.1) ++ l2.map (·.1))).Perm _
      exact List.perm_middle.symm
    · show iterLeft _ _ < iterLeft _ _
      rw [hI4.left, hI.left, ht]
      simp
end Go.Proofs
