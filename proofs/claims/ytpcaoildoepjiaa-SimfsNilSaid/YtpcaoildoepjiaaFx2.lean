/- A proof layer over heaps, and contracts of the printed functions; no statement of the seat is proved here. -/
import Derived.Test.YtpcaoildoepjiaaFx1
import Derived.Test.YtpcaoildoepjiaaProg
import Derived.KernelRfl
set_option linter.unusedVariables false
set_option linter.unusedSimpArgs false
set_option linter.unusedSectionVars false

namespace Go.Fx
open Go
set_option linter.unusedVariables false
theorem w64 {n : Int} (h0 : -2^63 ≤ n) (h1 : n < 2^63) : IntKind.wrap .i64 n = n := by
  rw [IntKind.wrap_i64]; omega
theorem wu64 (n : Int) : IntKind.wrap .u64 n = n % 2^64 := by
  simp only [IntKind.wrap, IntKind.bits, IntKind.signed]; rfl

/-- How many pairs are still to come: the measure of a loop over a map. -/
def iterLeft (H : Heap) (it : Nat) : Nat :=
  match H[it]? with
  | some (.mapIter (some m) _ seen _) => match H[m]? with
    | some (.map es _) => (es.toList.filter fun e => !seen.contains e.born).length
    | _ => 0
  | _ => 0
theorem IterAt.left {κ : Type} {inj : κ → Value} {H : Heap} {it m : Nat} {kvs todo : List (κ × Value)} (h : IterAt inj H it m kvs todo) : iterLeft H it = todo.length := by
  obtain ⟨es, clk, seen, h1, h2, _, h4, _⟩ := h
  unfold iterLeft
  simp only [h2, h1]
  have := congrArg List.length h4
  simpa using this
theorem IterAt.has {κ : Type} {inj : κ → Value} {H : Heap} {it m : Nat} {kvs todo : List (κ × Value)} (h : IterAt inj H it m kvs todo) : ∃ o, H[it]? = some o := by
  obtain ⟨es, clk, seen, h1, h2, _⟩ := h
  exact ⟨_, h2⟩
theorem own_of_at1 {k j : Nat} {l : Lab} (h : at1 (k, j) l) : own k l := by unfold at1 at h; rw [h]; rfl
theorem at1_no0 {k j : Nat} (hk : k ≠ 0) : ∀ x : Lab, x.1 = 0 → ¬ at1 (k, j) x := fun y hy e => hk (by unfold at1 at e; rw [e] at hy; exact hy)
theorem ev_upd {H : Heap} {C : Col} {b : Nat} {lab : Lab} (h : C b = lab) (o : Obj) : Ev (at1 lab) H C (upd H b o) C := Ev.upd (Ev.refl (at1 lab) H C) (fun _ => show at1 lab (C b) from h) o
theorem ev_push (S : Lab → Prop) (H : Heap) (C : Col) (o : Obj) (lab : Lab) : Ev S H C (H.push o) (setC C H.size lab) := ((Ev.refl S H C).push o).paint (Nat.le_refl _) lab
theorem at1_ne {k j i : Nat} (h : i ≠ j) : ¬ at1 (k, j) (k, i) := fun e => h (by unfold at1 at e; exact (Prod.mk.inj e).2)

section
variable {P : Program}
theorem build_oneK {T e : TypeId} {z v : Value} {s b : Nat} (hT : P.underlying T = some (.slice e)) (hi : TyF P e z s b) (hzs : z.cells.size = s) (hv : v.cells.size = s) (hp : 0 < s) (hlt : s ≤ 2 ^ 24)
    {H : Heap} {K : Value → Heap → Prop} (hK : K (.slice (some ⟨H.size, 0, none⟩) 1 1) (H.push (.cells v.cells e))) :
    Smk P (Instr.buildSlice T 1 ⟨[(0, v)]⟩) H K := build_oneT hT hi hzs hv hp hlt hK
theorem app_ownK {T T' e ty : TypeId} {d' : TypeDesc} {z : Value} {s b : Nat} {H : Heap} {C : Col} {lab : Lab} {a : Option Addr} {l c n : Nat} {x : Value} {old new : List Value} {K : Value → Heap → Prop}
    (hT : P.underlying T = some (.slice e)) (hT' : P.underlying T' = some d') (hd : (∃ e', d' = .slice e') ∨ d' = .string) (hi : TyF P e z s b) (hzs : z.cells.size = s)
    (hx : SrcH H s x n new) (hn : new.length = n * s) (hone : ∀ v ∈ new, v.oneCell = true) (ho : SlO H C lab e s a l c old) (hb : (2 * (l + n) + 768) * b ≤ 2 ^ 48) (hn2 : l + n < 2 ^ 63)
    (hK : ∀ a' c' H' C', SlO H' C' lab e s a' (l + n) c' (old ++ new) → Ev (at1 lab) H C H' C' → (a = none → Ev no H C H' C') → K (.slice a' (l + n) c') H') :
    Smk P (Builtin.append_ #[T, T'] ty ⟨[.slice a l c, x]⟩) H K := app_ownT hT hT' hd hi hzs hx hn hone ho hb hn2 hK
theorem app_copyK {T T' e ty : TypeId} {d' : TypeDesc} {z : Value} {s b : Nat} {H : Heap} {C : Col} {lab : Lab} {n : Nat} {x : Value} {new : List Value} {K : Value → Heap → Prop}
    (hT : P.underlying T = some (.slice e)) (hT' : P.underlying T' = some d') (hd : (∃ e', d' = .slice e') ∨ d' = .string) (hi : TyF P e z s b) (hzs : z.cells.size = s)
    (hx : SrcH H s x n new) (hn : new.length = n * s) (hone : ∀ v ∈ new, v.oneCell = true) (hb : (2 * n + 768) * b ≤ 2 ^ 48) (hn2 : n < 2 ^ 63)
    (hK : ∀ a' c' H' C', SlO H' C' lab e s a' n c' new → Ev no H C H' C' → K (.slice a' n c') H') :
    Smk P (Builtin.append_ #[T, T'] ty ⟨[.slice none 0 0, x]⟩) H K := app_copy hT hT' hd hi hzs hx hn hone hb hn2 hK
theorem deleteK {κ : Type} [DecidableEq κ] {d : TypeDesc} {inj : κ → Value} (hk : KeyI d inj) {T t e T' ty : TypeId} (hT : P.underlying T = some (.map t e)) (ht : P.underlying t = some d)
    {H : Heap} {m : Nat} {o : Obj} {kvs : List (κ × Value)} (hm : H[m]? = some o) (ho : MapIs inj o kvs) (k : κ) {K : Value → Heap → Prop}
    (hK : ∀ o', MapIs inj o' (del k kvs) → K (.tuple ⟨[]⟩) (upd H m o')) : Smk P (Builtin.delete_ #[T, T'] ty ⟨[.map (some m), inj k]⟩) H K := wpH_delete (T' := T') (ty := ty) hk hT ht hm ho k hK
theorem mapUpdateK {κ : Type} [DecidableEq κ] {d : TypeDesc} {inj : κ → Value} (hk : KeyI d inj) {T t e : TypeId} (hT : P.underlying T = some (.map t e)) (ht : P.underlying t = some d)
    {H : Heap} {m : Nat} {o : Obj} {kvs : List (κ × Value)} (hm : H[m]? = some o) (ho : MapIs inj o kvs) (k : κ) (v : Value) {K : Heap → Prop}
    (hK : ∀ o', MapIs inj o' (ins k v kvs) → K (upd H m o')) : SmUk P (Instr.mapUpdate T (.map (some m)) (inj k) v) H K := wpH_mapUpdate hk hT ht hm ho k v hK
theorem rangeK {κ : Type} [DecidableEq κ] {inj : κ → Value} {T t e : TypeId} (hT : P.underlying T = some (.map t e)) {H : Heap} {m : Nat} {o : Obj} {kvs : List (κ × Value)} (hm : H[m]? = some o) (ho : MapIs inj o kvs) {K : Value → Heap → Prop}
    (hK : ∀ o', IterAt inj (H.push o') H.size m kvs kvs → K (.pointer (some ⟨H.size, 0, none⟩)) (H.push o')) : Smk P (Instr.range T (.map (some m))) H K := range_wp hT hm ho hK
end
end Go.Fx

set_option linter.unusedVariables false
set_option maxRecDepth 100000
namespace Go.Proofs
open Go Go.Fx
def Fn (f : FuncId) (args : List Value) (H : Heap) (K : Value → Heap → Prop) (_t : TokT K := ()) : Prop := FnH Try.prog f ⟨args⟩ H K
theorem mixed : Try.prog.follows .mixedOrders = true := by kernel_rfl

/- stook/stooklaw14.SimfsRename -/
def F3 (a_b : Option Addr) (l_b : Nat) (c_b : Nat) (a_c : Option Addr) (l_c : Nat) (c_c : Nat) (a_cuts : Option Addr) (l_cuts : Nat) (c_cuts : Nat) (b_sync : Bool) (H : Heap) (K : Value → Heap → Prop) : Prop :=
  BrB (decide ((IntKind.wrap .i64 (((l_b : Nat) : Int) + ((l_c : Nat) : Int)) : Int) > 10000)) (Fn 13 [] H fun v H => RtB v fun b21 => K (.bool b21) H) (Fn 14
    [.int .i64 1048576] H fun v H => RtT 2 v fun ts => RtP (ts.getD 0 undef) fun p23 => RtI .i64 (ts.getD 1 undef) fun i23 => BrB ((i23 : Int) != 0) (K (.bool
    false) H) (Fn 15 [.pointer p23, .string (str [97])] H fun v H => RtI .i64 v fun i30 => BrB ((i30 : Int) != 0) (K (.bool false) H) (Fn 16 [.pointer p23, .string
    (str [97]), .slice a_b l_b c_b] H fun v H => RtI .i64 v fun i36 => BrB ((i36 : Int) != 0) (K (.bool false) H) (Fn 17 [.pointer p23, .string (str [97])] H fun v
    H => RtI .i64 v fun i41 => BrB ((i41 : Int) != 0) (K (.bool false) H) (Fn 15 [.pointer p23, .string (str [110])] H fun v H => RtI .i64 v fun i46 => BrB ((i46 :
    Int) != 0) (K (.bool false) H) (Fn 16 [.pointer p23, .string (str [110]), .slice a_c l_c c_c] H fun v H => RtI .i64 v fun i52 => BrB ((i52 : Int) != 0) (K
    (.bool false) H) (Fn 17 [.pointer p23, .string (str [110])] H fun v H => RtI .i64 v fun i57 => BrB ((i57 : Int) != 0) (K (.bool false) H) (Fn 18 [.pointer p23]
    H fun v H => RtI .i64 v fun i62 => BrB ((i62 : Int) != 0) (K (.bool false) H) (Fn 19 [.pointer p23, .string (str [110]), .string (str [97])] H fun v H => RtI
    .i64 v fun i67 => BrB ((i67 : Int) != 0) (K (.bool false) H) (BrB b_sync (Fn 18 [.pointer p23] H fun v H => RtI .i64 v fun i73 => BrB ((i73 : Int) != 0) (K
    (.bool false) H) (Fn 20 [.pointer p23, .slice a_cuts l_cuts c_cuts] H fun v H => RtT 2 v fun ts_1 => RtP (ts_1.getD 0 undef) fun p79 => RtI .i64 (ts_1.getD 1
    undef) fun i79 => Fn 21 [.pointer p79, .string (str [97]), .int .i64 0, .int .i64 1048576] H fun v H => RtT 2 v fun ts_2 => RtL (ts_2.getD 0 undef) fun a84 l84
    c84 => RtI .i64 (ts_2.getD 1 undef) fun i84 => BrB ((i79 : Int) == 0) (BrB ((i84 : Int) == 0) (Fn 22 [.slice a84 l84 c84, .slice a_c l_c c_c] H fun v H => RtB
    v fun b96 => BrB b96 (Fn 13 [] H fun v H => RtB v fun b108 => K (.bool b108) H) (BrB (!b_sync) (Fn 22 [.slice a84 l84 c84, .slice a_b l_b c_b] H fun v H => RtB
    v fun b103 => BrB b103 (Fn 13 [] H fun v H => RtB v fun b108_1 => K (.bool b108_1) H) (K (.bool false) H)) (K (.bool false) H))) (K (.bool false) H)) (K (.bool
    false) H))) (Fn 20 [.pointer p23, .slice a_cuts l_cuts c_cuts] H fun v H => RtT 2 v fun ts_3 => RtP (ts_3.getD 0 undef) fun p79_1 => RtI .i64 (ts_3.getD 1
    undef) fun i79_1 => Fn 21 [.pointer p79_1, .string (str [97]), .int .i64 0, .int .i64 1048576] H fun v H => RtT 2 v fun ts_4 => RtL (ts_4.getD 0 undef) fun
    a84_1 l84_1 c84_1 => RtI .i64 (ts_4.getD 1 undef) fun i84_1 => BrB ((i79_1 : Int) == 0) (BrB ((i84_1 : Int) == 0) (Fn 22 [.slice a84_1 l84_1 c84_1, .slice a_c
    l_c c_c] H fun v H => RtB v fun b96_1 => BrB b96_1 (Fn 13 [] H fun v H => RtB v fun b108_2 => K (.bool b108_2) H) (BrB (!b_sync) (Fn 22 [.slice a84_1 l84_1
    c84_1, .slice a_b l_b c_b] H fun v H => RtB v fun b103_1 => BrB b103_1 (Fn 13 [] H fun v H => RtB v fun b108_3 => K (.bool b108_3) H) (K (.bool false) H)) (K
    (.bool false) H))) (K (.bool false) H)) (K (.bool false) H))))))))))))
def tb3 : Tab := { ord := [], ent := [], lp := [], jn := [] }
theorem F3_eq (a_b : Option Addr) (l_b : Nat) (c_b : Nat) (a_c : Option Addr) (l_c : Nat) (c_c : Nat) (a_cuts : Option Addr) (l_cuts : Nat) (c_cuts : Nat) (b_sync : Bool) (H : Heap) (K : Value → Heap → Prop) : F3 a_b l_b c_b a_c l_c c_c a_cuts l_cuts c_cuts b_sync H K = FnW Try.prog tb3 3 [.slice a_b l_b c_b, .slice a_c l_c c_c, .slice a_cuts l_cuts c_cuts, .bool b_sync] H K := by kernel_rfl
theorem F3_is : isFnB Try.prog 3 = true := by kernel_rfl
theorem F3_ok (a_b : Option Addr) (l_b : Nat) (c_b : Nat) (a_c : Option Addr) (l_c : Nat) (c_c : Nat) (a_cuts : Option Addr) (l_cuts : Nat) (c_cuts : Nat) (b_sync : Bool) {H : Heap} {K : Value → Heap → Prop} (h : F3 a_b l_b c_b a_c l_c c_c a_cuts l_cuts c_cuts b_sync H K) : Fn 3 [.slice a_b l_b c_b, .slice a_c l_c c_c, .slice a_cuts l_cuts c_cuts, .bool b_sync] H K :=
  FnH.of_W mixed F3_is (by kernel_rfl) (cast (F3_eq a_b l_b c_b a_c l_c c_c a_cuts l_cuts c_cuts b_sync H K) h)

/- stook/stooklaw14.SimfsBlocks -/
def F4 (i_blocks : Int) (i_at : Int) (a_b : Option Addr) (l_b : Nat) (c_b : Nat) (i_cut : Int) (H : Heap) (K : Value → Heap → Prop) : Prop :=
  Ck ((5 : Int) ≠ 0) (BrB (decide ((IntKind.wrap .i64 ((IntKind.wrap .i64 i_at) + ((l_b : Nat) : Int)) : Int) > (IntKind.wrap .i64 (512 * (IntKind.wrap .i64 (1 +
    (IntKind.wrap .i64 (Int.tmod i_blocks 5)))))))) (Fn 13 [] H fun v H => RtB v fun b32 => K (.bool b32) H) (Fn 14 [.int .i64 1048576] H fun v H => RtT 2 v fun ts
    => RtP (ts.getD 0 undef) fun p34 => RtI .i64 (ts.getD 1 undef) fun i34 => BrB ((i34 : Int) != 0) (K (.bool false) H) (Fn 15 [.pointer p34, .string (str [97])]
    H fun v H => RtI .i64 v fun i41 => BrB ((i41 : Int) != 0) (K (.bool false) H) (Smk Try.prog (Instr.makeSlice 22 (.int .i64 (IntKind.wrap .i64 (512 *
    (IntKind.wrap .i64 (1 + (IntKind.wrap .i64 (Int.tmod i_blocks 5))))))) (.int .i64 (IntKind.wrap .i64 (512 * (IntKind.wrap .i64 (1 + (IntKind.wrap .i64
    (Int.tmod i_blocks 5)))))))) H fun v H => RtL v fun a47 l47 c47 => Fn 16 [.pointer p34, .string (str [97]), .slice a47 l47 c47] H fun v H => RtI .i64 v fun i48
    => BrB ((i48 : Int) != 0) (K (.bool false) H) (Fn 17 [.pointer p34, .string (str [97])] H fun v H => RtI .i64 v fun i53 => BrB ((i53 : Int) != 0) (K (.bool
    false) H) (Fn 18 [.pointer p34] H fun v H => RtI .i64 v fun i58 => BrB ((i58 : Int) != 0) (K (.bool false) H) (Fn 23 [.pointer p34, .string (str [97]), .int
    .i64 (IntKind.wrap .i64 i_at), .slice a_b l_b c_b] H fun v H => RtI .i64 v fun i66 => BrB ((i66 : Int) != 0) (K (.bool false) H) (Fn 21 [.pointer p34, .string
    (str [97]), .int .i64 0, .int .i64 (IntKind.wrap .i64 (512 * (IntKind.wrap .i64 (1 + (IntKind.wrap .i64 (Int.tmod i_blocks 5))))))] H fun v H => RtT 2 v fun
    ts_1 => RtL (ts_1.getD 0 undef) fun a72 l72 c72 => RtI .i64 (ts_1.getD 1 undef) fun i72 => Smk Try.prog (Instr.buildSlice 23 3 ⟨[(0, .int .i64 0), (1, .int
    .i64 0), (2, .int .i64 i_cut)]⟩) H fun v H => RtL v fun a78 l78 c78 => Fn 20 [.pointer p34, .slice a78 l78 c78] H fun v H => RtT 2 v fun ts_2 => RtP (ts_2.getD
    0 undef) fun p79 => RtI .i64 (ts_2.getD 1 undef) fun i79 => Fn 21 [.pointer p79, .string (str [97]), .int .i64 0, .int .i64 1048576] H fun v H => RtT 2 v fun
    ts_3 => RtL (ts_3.getD 0 undef) fun a84 l84 c84 => RtI .i64 (ts_3.getD 1 undef) fun i84 => BrB ((i72 : Int) != 0) (K (.bool false) H) (BrB ((i79 : Int) != 0)
    (K (.bool false) H) (BrB ((i84 : Int) != 0) (K (.bool false) H) (BrB ((((l84 : Nat) : Int) : Int) != (IntKind.wrap .i64 (512 * (IntKind.wrap .i64 (1 +
    (IntKind.wrap .i64 (Int.tmod i_blocks 5))))))) (K (.bool false) H) (Lp (fun (I : Int → Heap → Prop) (_ : Int → Heap → Nat) => I 0 H) (fun I M => ∀ _ : Fr, ∀
    i_n : Int, ∀ H0 : Heap, I i_n H0 → At H0 fun H => BrB (decide ((i_n : Int) < (IntKind.wrap .i64 (512 * (IntKind.wrap .i64 (1 + (IntKind.wrap .i64 (Int.tmod
    i_blocks 5)))))))) (Ck ((0 : Int) ≤ i_n ∧ (i_n : Int) ≤ IntKind.wrap .i64 (i_n + 512) ∧ (IntKind.wrap .i64 (i_n + 512) : Int) ≤ ((c84 : Nat) : Int) ∧ (((c84 :
    Nat) : Int) : Int) ≤ ((c84 : Nat) : Int)) (Smk Try.prog (Instr.makeSlice 22 (.int .i64 512) (.int .i64 512)) H fun v H => RtL v fun a114 l114 c114 => Fn 22
    [.slice (slA a84 i_n ((c84 : Nat) : Int) 1) (slN i_n (IntKind.wrap .i64 (i_n + 512))) (slN i_n ((c84 : Nat) : Int)), .slice a114 l114 c114] H fun v H => RtB v
    fun b115 => BrB (!b115) (Ck ((0 : Int) ≤ i_n ∧ (i_n : Int) ≤ IntKind.wrap .i64 (i_n + 512) ∧ (IntKind.wrap .i64 (i_n + 512) : Int) ≤ ((c72 : Nat) : Int) ∧
    (((c72 : Nat) : Int) : Int) ≤ ((c72 : Nat) : Int)) (Fn 22 [.slice (slA a84 i_n ((c84 : Nat) : Int) 1) (slN i_n (IntKind.wrap .i64 (i_n + 512))) (slN i_n ((c84
    : Nat) : Int)), .slice (slA a72 i_n ((c72 : Nat) : Int) 1) (slN i_n (IntKind.wrap .i64 (i_n + 512))) (slN i_n ((c72 : Nat) : Int))] H fun v H => RtB v fun b124
    => BrB (!b124) (K (.bool false) H) (I (IntKind.wrap .i64 (i_n + 512)) H ∧ M (IntKind.wrap .i64 (i_n + 512)) H < M i_n H0))) (I (IntKind.wrap .i64 (i_n + 512))
    H ∧ M (IntKind.wrap .i64 (i_n + 512)) H < M i_n H0))) (Fn 13 [] H fun v H => RtB v fun b127 => K (.bool b127) H))))))))))))))
def tb4 : Tab := { ord := [], ent := [], lp := [(13, [(18, .one (.int .i64))])], jn := [] }
theorem F4_eq (i_blocks : Int) (i_at : Int) (a_b : Option Addr) (l_b : Nat) (c_b : Nat) (i_cut : Int) (H : Heap) (K : Value → Heap → Prop) : F4 i_blocks i_at a_b l_b c_b i_cut H K = FnW Try.prog tb4 4 [.int .u8 i_blocks, .int .u16 i_at, .slice a_b l_b c_b, .int .i64 i_cut] H K := by kernel_rfl
theorem F4_is : isFnB Try.prog 4 = true := by kernel_rfl
theorem F4_ok (i_blocks : Int) (i_at : Int) (a_b : Option Addr) (l_b : Nat) (c_b : Nat) (i_cut : Int) {H : Heap} {K : Value → Heap → Prop} (h : F4 i_blocks i_at a_b l_b c_b i_cut H K) : Fn 4 [.int .u8 i_blocks, .int .u16 i_at, .slice a_b l_b c_b, .int .i64 i_cut] H K :=
  FnH.of_W mixed F4_is (by kernel_rfl) (cast (F4_eq i_blocks i_at a_b l_b c_b i_cut H K) h)

/- stook/stooklaw14.SimfsFresh -/
def F5 (a_b : Option Addr) (l_b : Nat) (c_b : Nat) (i_at : Int) (H : Heap) (K : Value → Heap → Prop) : Prop :=
  BrB (decide ((((l_b : Nat) : Int) : Int) > 10000)) (Fn 13 [] H fun v H => RtB v fun b20 => K (.bool b20) H) (Fn 14 [.int .i64 1048576] H fun v H => RtT 2 v fun
    ts => RtP (ts.getD 0 undef) fun p22 => RtI .i64 (ts.getD 1 undef) fun i22 => Fn 24 [.slice a_b l_b c_b] H fun v H => RtL v fun a26 l26 c26 => Fn 24 [.slice a_b
    l_b c_b] H fun v H => RtL v fun a28 l28 c28 => BrB ((i22 : Int) != 0) (K (.bool false) H) (Fn 15 [.pointer p22, .string (str [97])] H fun v H => RtI .i64 v fun
    i33 => BrB ((i33 : Int) != 0) (K (.bool false) H) (Fn 16 [.pointer p22, .string (str [97]), .slice a26 l26 c26] H fun v H => RtI .i64 v fun i39 => BrB ((i39 :
    Int) != 0) (K (.bool false) H) (Fn 23 [.pointer p22, .string (str [97]), .int .i64 0, .slice a28 l28 c28] H fun v H => RtI .i64 v fun i45 => BrB ((i45 : Int)
    != 0) (K (.bool false) H) (Fn 25 [.slice a26 l26 c26, .slice a_b l_b c_b] H fun v H => RtB v fun b50 => BrB b50 (Fn 25 [.slice a28 l28 c28, .slice a_b l_b c_b]
    H fun v H => RtB v fun b54 => Fn 26 [.slice a26 l26 c26, .int .u8 1] H fun v H => Rt0 v (Fn 26 [.slice a28 l28 c28, .int .u8 1] H fun v H => Rt0 v (Fn 21
    [.pointer p22, .string (str [97]), .int .i64 0, .int .i64 1048576] H fun v H => RtT 2 v fun ts_1 => RtL (ts_1.getD 0 undef) fun a62 l62 c62 => RtI .i64
    (ts_1.getD 1 undef) fun i62 => Fn 27 [.slice a62 l62 c62] H fun v H => RtL v fun a66 l66 c66 => Fn 26 [.slice a62 l62 c62, .int .u8 1] H fun v H => Rt0 v (Fn
    28 [.pointer p22] H fun v H => RtL v fun a70 l70 c70 => Lp (fun (I : Int → Heap → Prop) (_ : Int → Heap → Nat) => I 0 H) (fun I M => ∀ _ : Fr, ∀ i_i : Int, ∀
    H0 : Heap, I i_i H0 → At H0 fun H => BrB (decide ((i_i : Int) < ((l70 : Nat) : Int))) (Idx a70 l70 i_i 1 fun e79 => StV H e79 1 [.string (str [98])] fun H => I
    (IntKind.wrap .i64 (i_i + 1)) H ∧ M (IntKind.wrap .i64 (i_i + 1)) H < M i_i H0) (Fn 21 [.pointer p22, .string (str [97]), .int .i64 0, .int .i64 1048576] H fun
    v H => RtT 2 v fun ts_2 => RtL (ts_2.getD 0 undef) fun a82 l82 c82 => RtI .i64 (ts_2.getD 1 undef) fun i82 => BrB b54 (BrB ((i82 : Int) == 0) (Fn 22 [.slice
    a66 l66 c66, .slice a_b l_b c_b] H fun v H => RtB v fun b93 => BrB b93 (Fn 22 [.slice a82 l82 c82, .slice a_b l_b c_b] H fun v H => RtB v fun b98 => BrB b98
    (Fn 28 [.pointer p22] H fun v H => RtL v fun a102 l102 c102 => Smk Try.prog (Instr.buildSlice 43 1 ⟨[(0, .string (str [97]))]⟩) H fun v H => RtL v fun a103
    l103 c103 => Fn 29 [.slice a102 l102 c102, .slice a103 l103 c103] H fun v H => RtB v fun b104 => BrB b104 (Fn 13 [] H fun v H => RtB v fun b107 => K (.bool
    b107) H) (K (.bool false) H)) (K (.bool false) H)) (K (.bool false) H)) (K (.bool false) H)) (K (.bool false) H))))))) (Fn 26 [.slice a26 l26 c26, .int .u8 1]
    H fun v H => Rt0 v (Fn 26 [.slice a28 l28 c28, .int .u8 1] H fun v H => Rt0 v (Fn 21 [.pointer p22, .string (str [97]), .int .i64 0, .int .i64 1048576] H fun v
    H => RtT 2 v fun ts_3 => RtL (ts_3.getD 0 undef) fun a62_1 l62_1 c62_1 => RtI .i64 (ts_3.getD 1 undef) fun i62_1 => Fn 27 [.slice a62_1 l62_1 c62_1] H fun v H
    => RtL v fun a66_1 l66_1 c66_1 => Fn 26 [.slice a62_1 l62_1 c62_1, .int .u8 1] H fun v H => Rt0 v (Fn 28 [.pointer p22] H fun v H => RtL v fun a70_1 l70_1
    c70_1 => Lp (fun (I_1 : Int → Heap → Prop) (_ : Int → Heap → Nat) => I_1 0 H) (fun I_1 M_1 => ∀ _ : Fr, ∀ i_i_1 : Int, ∀ H0_1 : Heap, I_1 i_i_1 H0_1 → At H0_1
    fun H => BrB (decide ((i_i_1 : Int) < ((l70_1 : Nat) : Int))) (Idx a70_1 l70_1 i_i_1 1 fun e79_1 => StV H e79_1 1 [.string (str [98])] fun H => I_1
    (IntKind.wrap .i64 (i_i_1 + 1)) H ∧ M_1 (IntKind.wrap .i64 (i_i_1 + 1)) H < M_1 i_i_1 H0_1) (Fn 21 [.pointer p22, .string (str [97]), .int .i64 0, .int .i64
    1048576] H fun v H => RtT 2 v fun ts_4 => RtL (ts_4.getD 0 undef) fun a82_1 l82_1 c82_1 => RtI .i64 (ts_4.getD 1 undef) fun i82_1 => K (.bool false)
    H)))))))))))
def tb5 : Tab := { ord := [], ent := [], lp := [(16, [(14, .one (.int .i64))])], jn := [] }
theorem F5_eq (a_b : Option Addr) (l_b : Nat) (c_b : Nat) (i_at : Int) (H : Heap) (K : Value → Heap → Prop) : F5 a_b l_b c_b i_at H K = FnW Try.prog tb5 5 [.slice a_b l_b c_b, .int .i64 i_at] H K := by kernel_rfl
theorem F5_is : isFnB Try.prog 5 = true := by kernel_rfl
theorem F5_ok (a_b : Option Addr) (l_b : Nat) (c_b : Nat) (i_at : Int) {H : Heap} {K : Value → Heap → Prop} (h : F5 a_b l_b c_b i_at H K) : Fn 5 [.slice a_b l_b c_b, .int .i64 i_at] H K :=
  FnH.of_W mixed F5_is (by kernel_rfl) (cast (F5_eq a_b l_b c_b i_at H K) h)

/- stook/stooklaw14.SimfsSure -/
def F6 (a_b : Option Addr) (l_b : Nat) (c_b : Nat) (a_l : Option Addr) (l_l : Nat) (c_l : Nat) (a_cuts : Option Addr) (l_cuts : Nat) (c_cuts : Nat) (H : Heap) (K : Value → Heap → Prop) : Prop :=
  Fn 30 [.slice a_l l_l c_l] H fun v H => RtB v fun b15 => BrB b15 (Fn 13 [] H fun v H => RtB v fun b21 => K (.bool b21) H) (BrB (decide ((((l_b : Nat) : Int) :
    Int) > 10000)) (Fn 13 [] H fun v H => RtB v fun b21_1 => K (.bool b21_1) H) (Fn 14 [.int .i64 1048576] H fun v H => RtT 2 v fun ts => RtP (ts.getD 0 undef) fun
    p23 => RtI .i64 (ts.getD 1 undef) fun i23 => BrB ((i23 : Int) != 0) (K (.bool false) H) (Fn 15 [.pointer p23, .string (str [115, 117, 114, 101])] H fun v H =>
    RtI .i64 v fun i30 => BrB ((i30 : Int) != 0) (K (.bool false) H) (Fn 16 [.pointer p23, .string (str [115, 117, 114, 101]), .slice a_b l_b c_b] H fun v H => RtI
    .i64 v fun i36 => BrB ((i36 : Int) != 0) (K (.bool false) H) (Fn 17 [.pointer p23, .string (str [115, 117, 114, 101])] H fun v H => RtI .i64 v fun i41 => BrB
    ((i41 : Int) != 0) (K (.bool false) H) (Fn 18 [.pointer p23] H fun v H => RtI .i64 v fun i46 => BrB ((i46 : Int) != 0) (K (.bool false) H) (Lp (fun (I : Int →
    Heap → Prop) (_ : Int → Heap → Nat) => I 0 H) (fun I M => ∀ _ : Fr, ∀ i_i : Int, ∀ H0 : Heap, I i_i H0 → At H0 fun H => BrB (decide ((i_i : Int) < ((l_l : Nat)
    : Int))) (Jn (fun J : Heap → Prop => ∀ _ : Fr, ∀ H : Heap, J H → I (IntKind.wrap .i64 (i_i + 1)) H ∧ M (IntKind.wrap .i64 (i_i + 1)) H < M i_i H0) (fun J =>
    Idx a_l l_l i_i 5 fun e57 => Ld (cellH H (Addr.add e57 1)) fun w59 => RtS w59 fun s59 => BrB (!(s59.toList == (str [115, 117, 114, 101]).toList)) (Idx a_l l_l
    i_i 5 fun e64 => Ld (cellH H (Addr.add e64 2)) fun w66 => RtS w66 fun s66 => BrB (!(s66.toList == (str [115, 117, 114, 101]).toList)) (Idx a_l l_l i_i 5 fun
    e72 => Ld (rowV H e72 5) fun w73 => RtA 5 w73 fun ws => RtI .u8 (ws.getD 0 undef) fun i73 => RtS (ws.getD 1 undef) fun s73 => RtS (ws.getD 2 undef) fun s73_1
    => RtI .i64 (ws.getD 3 undef) fun i73_1 => RtL (ws.getD 4 undef) fun a73 l73 c73 => Fn 31 [.pointer p23, .agg ⟨[.int .u8 i73, .string s73, .string s73_1, .int
    .i64 i73_1, .slice a73 l73 c73]⟩] H fun v H => RtI .i64 v fun i74 => J  H) (J  H)) (J  H))) (Fn 20 [.pointer p23, .slice a_cuts l_cuts c_cuts] H fun v H => RtT
    2 v fun ts_1 => RtP (ts_1.getD 0 undef) fun p78 => RtI .i64 (ts_1.getD 1 undef) fun i78 => Fn 21 [.pointer p78, .string (str [115, 117, 114, 101]), .int .i64
    0, .int .i64 1048576] H fun v H => RtT 2 v fun ts_2 => RtL (ts_2.getD 0 undef) fun a83 l83 c83 => RtI .i64 (ts_2.getD 1 undef) fun i83 => BrB ((i78 : Int) ==
    0) (BrB ((i83 : Int) == 0) (Fn 22 [.slice a_b l_b c_b, .slice a83 l83 c83] H fun v H => RtB v fun b95 => BrB b95 (Fn 13 [] H fun v H => RtB v fun b98 => K
    (.bool b98) H) (K (.bool false) H)) (K (.bool false) H)) (K (.bool false) H))))))))))
def tb6 : Tab := { ord := [], ent := [], lp := [(7, [(9, .one (.int .i64))])], jn := [(9, [])] }
theorem F6_eq (a_b : Option Addr) (l_b : Nat) (c_b : Nat) (a_l : Option Addr) (l_l : Nat) (c_l : Nat) (a_cuts : Option Addr) (l_cuts : Nat) (c_cuts : Nat) (H : Heap) (K : Value → Heap → Prop) : F6 a_b l_b c_b a_l l_l c_l a_cuts l_cuts c_cuts H K = FnW Try.prog tb6 6 [.slice a_b l_b c_b, .slice a_l l_l c_l, .slice a_cuts l_cuts c_cuts] H K := by kernel_rfl
theorem F6_is : isFnB Try.prog 6 = true := by kernel_rfl
theorem F6_ok (a_b : Option Addr) (l_b : Nat) (c_b : Nat) (a_l : Option Addr) (l_l : Nat) (c_l : Nat) (a_cuts : Option Addr) (l_cuts : Nat) (c_cuts : Nat) {H : Heap} {K : Value → Heap → Prop} (h : F6 a_b l_b c_b a_l l_l c_l a_cuts l_cuts c_cuts H K) : Fn 6 [.slice a_b l_b c_b, .slice a_l l_l c_l, .slice a_cuts l_cuts c_cuts] H K :=
  FnH.of_W mixed F6_is (by kernel_rfl) (cast (F6_eq a_b l_b c_b a_l l_l c_l a_cuts l_cuts c_cuts H K) h)

/- stook/stooklaw14.SimfsRoom -/
def F7 (i_room : Int) (a_l : Option Addr) (l_l : Nat) (c_l : Nat) (H : Heap) (K : Value → Heap → Prop) : Prop :=
  Fn 14 [.int .i64 i_room] H fun v H => RtT 2 v fun ts => RtP (ts.getD 0 undef) fun p13 => RtI .i64 (ts.getD 1 undef) fun i13 => BrB ((i13 : Int) != 0) (BrB ((i13
    : Int) == 0) (Fn 13 [] H fun v H => RtB v fun b37 => K (.bool b37) H) (BrB (Option.isNone p13) (BrB (decide ((i_room : Int) < 0)) (Fn 13 [] H fun v H => RtB v
    fun b37_1 => K (.bool b37_1) H) (BrB (decide ((i_room : Int) > 1048576)) (Fn 13 [] H fun v H => RtB v fun b37_2 => K (.bool b37_2) H) (K (.bool false) H))) (K
    (.bool false) H))) (Fn 30 [.slice a_l l_l c_l] H fun v H => RtB v fun b20 => BrB b20 (BrB ((i13 : Int) == 0) (Fn 13 [] H fun v H => RtB v fun b37_3 => K (.bool
    b37_3) H) (BrB (Option.isNone p13) (BrB (decide ((i_room : Int) < 0)) (Fn 13 [] H fun v H => RtB v fun b37_4 => K (.bool b37_4) H) (BrB (decide ((i_room : Int)
    > 1048576)) (Fn 13 [] H fun v H => RtB v fun b37_5 => K (.bool b37_5) H) (K (.bool false) H))) (K (.bool false) H))) (Lp (fun (I : Int → Heap → Prop) (_ : Int
    → Heap → Nat) => I 0 H) (fun I M => ∀ _ : Fr, ∀ i_i : Int, ∀ H0 : Heap, I i_i H0 → At H0 fun H => BrB (decide ((i_i : Int) < ((l_l : Nat) : Int))) (Jn (fun J :
    Heap → Prop => ∀ _ : Fr, ∀ H : Heap, J H → I (IntKind.wrap .i64 (i_i + 1)) H ∧ M (IntKind.wrap .i64 (i_i + 1)) H < M i_i H0) (fun J => Idx a_l l_l i_i 5 fun
    e47 => Ld (cellH H (Addr.add e47 0)) fun w49 => RtI .u8 w49 fun i49 => BrB (decide ((i49 : Int) ≥ 8)) (J  H) (Fn 32 [.pointer p13] H fun v H => RtI .i64 v fun
    i52 => Fn 33 [.pointer p13] H fun v H => RtI .i64 v fun i54 => Idx a_l l_l i_i 5 fun e58 => Ld (rowV H e58 5) fun w59 => RtA 5 w59 fun ws => RtI .u8 (ws.getD 0
    undef) fun i59 => RtS (ws.getD 1 undef) fun s59 => RtS (ws.getD 2 undef) fun s59_1 => RtI .i64 (ws.getD 3 undef) fun i59_1 => RtL (ws.getD 4 undef) fun a59 l59
    c59 => Fn 31 [.pointer p13, .agg ⟨[.int .u8 i59, .string s59, .string s59_1, .int .i64 i59_1, .slice a59 l59 c59]⟩] H fun v H => RtI .i64 v fun i60 => BrB
    ((i60 : Int) != 0) (Fn 32 [.pointer p13] H fun v H => RtI .i64 v fun i65 => BrB ((i65 : Int) != i52) (K (.bool false) H) (Fn 33 [.pointer p13] H fun v H => RtI
    .i64 v fun i70 => BrB ((i70 : Int) != i54) (K (.bool false) H) (BrB ((i60 : Int) == 0) (Fn 32 [.pointer p13] H fun v H => RtI .i64 v fun i80 => BrB ((i80 :
    Int) != (IntKind.wrap .i64 (i52 + 1))) (K (.bool false) H) (Fn 33 [.pointer p13] H fun v H => RtI .i64 v fun i88 => BrB (decide ((i88 : Int) > i_room)) (K
    (.bool false) H) (J  H))) (Fn 33 [.pointer p13] H fun v H => RtI .i64 v fun i88_1 => BrB (decide ((i88_1 : Int) > i_room)) (K (.bool false) H) (J  H))))) (BrB
    ((i60 : Int) == 0) (Fn 32 [.pointer p13] H fun v H => RtI .i64 v fun i80_1 => BrB ((i80_1 : Int) != (IntKind.wrap .i64 (i52 + 1))) (K (.bool false) H) (Fn 33
    [.pointer p13] H fun v H => RtI .i64 v fun i88_2 => BrB (decide ((i88_2 : Int) > i_room)) (K (.bool false) H) (J  H))) (Fn 33 [.pointer p13] H fun v H => RtI
    .i64 v fun i88_3 => BrB (decide ((i88_3 : Int) > i_room)) (K (.bool false) H) (J  H)))))) (Fn 34 [.pointer p13] H fun v H => RtB v fun b93 => BrB (!b93) (Fn 13
    [] H fun v H => RtB v fun b96 => K (.bool b96) H) (K (.bool false) H)))))
def tb7 : Tab := { ord := [], ent := [], lp := [(5, [(7, .one (.int .i64))])], jn := [(7, [])] }
theorem F7_eq (i_room : Int) (a_l : Option Addr) (l_l : Nat) (c_l : Nat) (H : Heap) (K : Value → Heap → Prop) : F7 i_room a_l l_l c_l H K = FnW Try.prog tb7 7 [.int .i64 i_room, .slice a_l l_l c_l] H K := by kernel_rfl
theorem F7_is : isFnB Try.prog 7 = true := by kernel_rfl
theorem F7_ok (i_room : Int) (a_l : Option Addr) (l_l : Nat) (c_l : Nat) {H : Heap} {K : Value → Heap → Prop} (h : F7 i_room a_l l_l c_l H K) : Fn 7 [.int .i64 i_room, .slice a_l l_l c_l] H K :=
  FnH.of_W mixed F7_is (by kernel_rfl) (cast (F7_eq i_room a_l l_l c_l H K) h)

/- stook/stooklaw14.SimfsDead -/
def F8 (i_room : Int) (a_l : Option Addr) (l_l : Nat) (c_l : Nat) (i_o : Int) (s_o : ByteArray) (s_o_1 : ByteArray) (i_o_1 : Int) (a_o : Option Addr) (l_o : Nat) (c_o : Nat) (a_more : Option Addr) (l_more : Nat) (c_more : Nat) (a_cuts : Option Addr) (l_cuts : Nat) (c_cuts : Nat) (H : Heap) (K : Value → Heap → Prop) : Prop :=
  New H (.cells ⟨[.int .u8 i_o, .string s_o, .string s_o_1, .int .i64 i_o_1, .slice a_o l_o c_o]⟩ 50) fun nb H => Fn 14 [.int .i64 i_room] H fun v H => RtT 2 v fun
    ts => RtP (ts.getD 0 undef) fun p28 => RtI .i64 (ts.getD 1 undef) fun i28 => BrB ((i28 : Int) != 0) (Fn 13 [] H fun v H => RtB v fun b41 => K (.bool b41) H)
    (Fn 30 [.slice a_l l_l c_l] H fun v H => RtB v fun b35 => BrB b35 (Fn 13 [] H fun v H => RtB v fun b41_1 => K (.bool b41_1) H) (Fn 30 [.slice a_more l_more
    c_more] H fun v H => RtB v fun b39 => BrB b39 (Fn 13 [] H fun v H => RtB v fun b41_2 => K (.bool b41_2) H) (Lp (fun (I : Int → Heap → Prop) (_ : Int → Heap →
    Nat) => I 0 H) (fun I M => ∀ _ : Fr, ∀ i_i : Int, ∀ H0 : Heap, I i_i H0 → At H0 fun H => BrB (decide ((i_i : Int) < ((l_l : Nat) : Int))) (Idx a_l l_l i_i 5
    fun e51 => Ld (rowV H e51 5) fun w52 => RtA 5 w52 fun ws => RtI .u8 (ws.getD 0 undef) fun i52 => RtS (ws.getD 1 undef) fun s52 => RtS (ws.getD 2 undef) fun
    s52_1 => RtI .i64 (ws.getD 3 undef) fun i52_1 => RtL (ws.getD 4 undef) fun a52 l52 c52 => Fn 31 [.pointer p28, .agg ⟨[.int .u8 i52, .string s52, .string s52_1,
    .int .i64 i52_1, .slice a52 l52 c52]⟩] H fun v H => RtI .i64 v fun i53 => I (IntKind.wrap .i64 (i_i + 1)) H ∧ M (IntKind.wrap .i64 (i_i + 1)) H < M i_i H0) (Fn
    35 [.pointer p28, .int .i64 1] H fun v H => RtI .i64 v fun i55 => Ld (rowV H ⟨nb, 0, none⟩ 5) fun w57 => RtA 5 w57 fun ws_1 => RtI .u8 (ws_1.getD 0 undef) fun
    i57 => RtS (ws_1.getD 1 undef) fun s57 => RtS (ws_1.getD 2 undef) fun s57_1 => RtI .i64 (ws_1.getD 3 undef) fun i57_1 => RtL (ws_1.getD 4 undef) fun a57 l57
    c57 => Fn 31 [.pointer p28, .agg ⟨[.int .u8 i57, .string s57, .string s57_1, .int .i64 i57_1, .slice a57 l57 c57]⟩] H fun v H => RtI .i64 v fun i58 => Fn 34
    [.pointer p28] H fun v H => RtB v fun b60 => BrB (!b60) (Fn 13 [] H fun v H => RtB v fun b62 => K (.bool b62) H) (Fn 32 [.pointer p28] H fun v H => RtI .i64 v
    fun i64 => Fn 20 [.pointer p28, .slice a_cuts l_cuts c_cuts] H fun v H => RtT 2 v fun ts_1 => RtP (ts_1.getD 0 undef) fun p68 => RtI .i64 (ts_1.getD 1 undef)
    fun i68 => Lp (fun (I_1 : Int → Heap → Prop) (_ : Int → Heap → Nat) => I_1 0 H) (fun I_1 M_1 => ∀ _ : Fr, ∀ i_i_1 : Int, ∀ H0_1 : Heap, I_1 i_i_1 H0_1 → At
    H0_1 fun H => BrB (decide ((i_i_1 : Int) < ((l_more : Nat) : Int))) (Idx a_more l_more i_i_1 5 fun e79 => Ld (cellH H (Addr.add e79 0)) fun w81 => RtI .u8 w81
    fun i81 => BrB (decide ((i81 : Int) ≤ 8)) (Idx a_more l_more i_i_1 5 fun e87 => Ld (rowV H e87 5) fun w88 => RtA 5 w88 fun ws_2 => RtI .u8 (ws_2.getD 0 undef)
    fun i88 => RtS (ws_2.getD 1 undef) fun s88 => RtS (ws_2.getD 2 undef) fun s88_1 => RtI .i64 (ws_2.getD 3 undef) fun i88_1 => RtL (ws_2.getD 4 undef) fun a88
    l88 c88 => Fn 31 [.pointer p28, .agg ⟨[.int .u8 i88, .string s88, .string s88_1, .int .i64 i88_1, .slice a88 l88 c88]⟩] H fun v H => RtI .i64 v fun i89 => BrB
    ((i89 : Int) != 13) (K (.bool false) H) (I_1 (IntKind.wrap .i64 (i_i_1 + 1)) H ∧ M_1 (IntKind.wrap .i64 (i_i_1 + 1)) H < M_1 i_i_1 H0_1)) (I_1 (IntKind.wrap
    .i64 (i_i_1 + 1)) H ∧ M_1 (IntKind.wrap .i64 (i_i_1 + 1)) H < M_1 i_i_1 H0_1)) (Fn 20 [.pointer p28, .slice a_cuts l_cuts c_cuts] H fun v H => RtT 2 v fun ts_2
    => RtP (ts_2.getD 0 undef) fun p95 => RtI .i64 (ts_2.getD 1 undef) fun i95 => Fn 28 [.pointer p95] H fun v H => RtL v fun a99 l99 c99 => BrB ((i68 : Int) != 0)
    (K (.bool false) H) (BrB ((i95 : Int) != 0) (K (.bool false) H) (Fn 32 [.pointer p28] H fun v H => RtI .i64 v fun i108 => BrB ((i108 : Int) != i64) (K (.bool
    false) H) (Fn 33 [.pointer p28] H fun v H => RtI .i64 v fun i114 => Fn 36 [.pointer p28] H fun v H => RtI .i64 v fun i116 => Fn 28 [.pointer p28] H fun v H =>
    RtL v fun a119 l119 c119 => BrB ((IntKind.wrap .i64 ((IntKind.wrap .i64 (i114 + i116)) + ((l119 : Nat) : Int)) : Int) != 0) (K (.bool false) H) (Fn 28
    [.pointer p68] H fun v H => RtL v fun a126 l126 c126 => Fn 29 [.slice a126 l126 c126, .slice a99 l99 c99] H fun v H => RtB v fun b128 => BrB (!b128) (K (.bool
    false) H) (Lp (fun (I_2 : Int → Heap → Prop) (_ : Int → Heap → Nat) => I_2 0 H) (fun I_2 M_2 => ∀ _ : Fr, ∀ i_i_2 : Int, ∀ H0_2 : Heap, I_2 i_i_2 H0_2 → At
    H0_2 fun H => BrB (decide ((i_i_2 : Int) < ((l99 : Nat) : Int))) (Idx a99 l99 i_i_2 1 fun e141 => Ld (cellH H e141) fun w142 => RtS w142 fun s142 => Fn 21
    [.pointer p68, .string s142, .int .i64 0, .int .i64 1048576] H fun v H => RtT 2 v fun ts_3 => RtL (ts_3.getD 0 undef) fun a143 l143 c143 => RtI .i64 (ts_3.getD
    1 undef) fun i143 => Idx a99 l99 i_i_2 1 fun e150 => Ld (cellH H e150) fun w151 => RtS w151 fun s151 => Fn 21 [.pointer p95, .string s151, .int .i64 0, .int
    .i64 1048576] H fun v H => RtT 2 v fun ts_4 => RtL (ts_4.getD 0 undef) fun a152 l152 c152 => RtI .i64 (ts_4.getD 1 undef) fun i152 => Fn 22 [.slice a143 l143
    c143, .slice a152 l152 c152] H fun v H => RtB v fun b157 => BrB (!b157) (K (.bool false) H) (I_2 (IntKind.wrap .i64 (i_i_2 + 1)) H ∧ M_2 (IntKind.wrap .i64
    (i_i_2 + 1)) H < M_2 i_i_2 H0_2)) (Fn 13 [] H fun v H => RtB v fun b159 => K (.bool b159) H)))))))))))))))
def tb8 : Tab := { ord := [], ent := [], lp := [(5, [(13, .one (.int .i64))]), (15, [(17, .one (.int .i64))]), (24, [(21, .one (.int .i64))])], jn := [] }
theorem F8_eq (i_room : Int) (a_l : Option Addr) (l_l : Nat) (c_l : Nat) (i_o : Int) (s_o : ByteArray) (s_o_1 : ByteArray) (i_o_1 : Int) (a_o : Option Addr) (l_o : Nat) (c_o : Nat) (a_more : Option Addr) (l_more : Nat) (c_more : Nat) (a_cuts : Option Addr) (l_cuts : Nat) (c_cuts : Nat) (H : Heap) (K : Value → Heap → Prop) : F8 i_room a_l l_l c_l i_o s_o s_o_1 i_o_1 a_o l_o c_o a_more l_more c_more a_cuts l_cuts c_cuts H K = FnW Try.prog tb8 8 [.int .i64 i_room, .slice a_l l_l c_l, .agg ⟨[.int .u8 i_o, .string s_o, .string s_o_1, .int .i64 i_o_1, .slice a_o l_o c_o]⟩, .slice a_more l_more c_more, .slice a_cuts l_cuts c_cuts] H K := by kernel_rfl
theorem F8_is : isFnB Try.prog 8 = true := by kernel_rfl
theorem F8_ok (i_room : Int) (a_l : Option Addr) (l_l : Nat) (c_l : Nat) (i_o : Int) (s_o : ByteArray) (s_o_1 : ByteArray) (i_o_1 : Int) (a_o : Option Addr) (l_o : Nat) (c_o : Nat) (a_more : Option Addr) (l_more : Nat) (c_more : Nat) (a_cuts : Option Addr) (l_cuts : Nat) (c_cuts : Nat) {H : Heap} {K : Value → Heap → Prop} (h : F8 i_room a_l l_l c_l i_o s_o s_o_1 i_o_1 a_o l_o c_o a_more l_more c_more a_cuts l_cuts c_cuts H K) : Fn 8 [.int .i64 i_room, .slice a_l l_l c_l, .agg ⟨[.int .u8 i_o, .string s_o, .string s_o_1, .int .i64 i_o_1, .slice a_o l_o c_o]⟩, .slice a_more l_more c_more, .slice a_cuts l_cuts c_cuts] H K :=
  FnH.of_W mixed F8_is (by kernel_rfl) (cast (F8_eq i_room a_l l_l c_l i_o s_o s_o_1 i_o_1 a_o l_o c_o a_more l_more c_more a_cuts l_cuts c_cuts H K) h)

/- stook/stooklaw14.SimfsPlays -/
def F9 (i_room : Int) (a_l : Option Addr) (l_l : Nat) (c_l : Nat) (H : Heap) (K : Value → Heap → Prop) : Prop :=
  Fn 14 [.int .i64 i_room] H fun v H => RtT 2 v fun ts => RtP (ts.getD 0 undef) fun p12 => RtI .i64 (ts.getD 1 undef) fun i12 => Fn 37 [.int .i64 i_room] H fun v H
    => RtT 2 v fun ts_1 => RtP (ts_1.getD 0 undef) fun p17 => RtI .i64 (ts_1.getD 1 undef) fun i17 => BrB ((i12 : Int) != i17) (K (.bool false) H) (BrB
    (!((Option.isNone p12) == ((i17 : Int) != 0))) (K (.bool false) H) (BrB ((i17 : Int) != 0) (Fn 13 [] H fun v H => RtB v fun b36 => K (.bool b36) H) (Fn 30
    [.slice a_l l_l c_l] H fun v H => RtB v fun b34 => BrB b34 (Fn 13 [] H fun v H => RtB v fun b36_1 => K (.bool b36_1) H) (Lp (fun (I : Int → Heap → Prop) (_ :
    Int → Heap → Nat) => I 0 H) (fun I M => ∀ _ : Fr, ∀ i_i : Int, ∀ H0 : Heap, I i_i H0 → At H0 fun H => BrB (decide ((i_i : Int) < ((l_l : Nat) : Int))) (Idx a_l
    l_l i_i 5 fun e46 => Ld (rowV H e46 5) fun w47 => RtA 5 w47 fun ws => RtI .u8 (ws.getD 0 undef) fun i47 => RtS (ws.getD 1 undef) fun s47 => RtS (ws.getD 2
    undef) fun s47_1 => RtI .i64 (ws.getD 3 undef) fun i47_1 => RtL (ws.getD 4 undef) fun a47 l47 c47 => Idx a_l l_l i_i 5 fun e52 => Ld (rowV H e52 5) fun w53 =>
    RtA 5 w53 fun ws_1 => RtI .u8 (ws_1.getD 0 undef) fun i53 => RtS (ws_1.getD 1 undef) fun s53 => RtS (ws_1.getD 2 undef) fun s53_1 => RtI .i64 (ws_1.getD 3
    undef) fun i53_1 => RtL (ws_1.getD 4 undef) fun a53 l53 c53 => Fn 31 [.pointer p12, .agg ⟨[.int .u8 i47, .string s47, .string s47_1, .int .i64 i47_1, .slice
    a47 l47 c47]⟩] H fun v H => RtI .i64 v fun i48 => Ck (rowV H e52 5 = some w53) (Fn 38 [.pointer p17, .agg ⟨[.int .u8 i53, .string s53, .string s53_1, .int .i64
    i53_1, .slice a53 l53 c53]⟩] H fun v H => RtI .i64 v fun i54 => BrB ((i48 : Int) != i54) (K (.bool false) H) (Idx a_l l_l i_i 5 fun e61 => Ld (rowV H e61 5)
    fun w62 => RtA 5 w62 fun ws_2 => RtI .u8 (ws_2.getD 0 undef) fun i62 => RtS (ws_2.getD 1 undef) fun s62 => RtS (ws_2.getD 2 undef) fun s62_1 => RtI .i64
    (ws_2.getD 3 undef) fun i62_1 => RtL (ws_2.getD 4 undef) fun a62 l62 c62 => Fn 39 [.pointer p12, .pointer p17, .agg ⟨[.int .u8 i62, .string s62, .string s62_1,
    .int .i64 i62_1, .slice a62 l62 c62]⟩] H fun v H => RtB v fun b63 => BrB (!b63) (K (.bool false) H) (I (IntKind.wrap .i64 (i_i + 1)) H ∧ M (IntKind.wrap .i64
    (i_i + 1)) H < M i_i H0)))) (Fn 13 [] H fun v H => RtB v fun b66 => K (.bool b66) H))))))
def tb9 : Tab := { ord := [(10, [0, 1, 2, 3, 4, 6, 7, 8, 9, 10, 5, 11, 12, 13, 14, 15, 16, 17, 18, 19, 20, 21, 22])], ent := [], lp := [(8, [(9, .one (.int .i64))])], jn := [] }
theorem F9_eq (i_room : Int) (a_l : Option Addr) (l_l : Nat) (c_l : Nat) (H : Heap) (K : Value → Heap → Prop) : F9 i_room a_l l_l c_l H K = FnW Try.prog tb9 9 [.int .i64 i_room, .slice a_l l_l c_l] H K := by kernel_rfl
theorem F9_is : isFnB Try.prog 9 = true := by kernel_rfl
theorem F9_ok (i_room : Int) (a_l : Option Addr) (l_l : Nat) (c_l : Nat) {H : Heap} {K : Value → Heap → Prop} (h : F9 i_room a_l l_l c_l H K) : Fn 9 [.int .i64 i_room, .slice a_l l_l c_l] H K :=
  FnH.of_W mixed F9_is (by kernel_rfl) (cast (F9_eq i_room a_l l_l c_l H K) h)

/- stook/stooklaw14.SimfsFails -/
def F10 (i_room : Int) (a_l : Option Addr) (l_l : Nat) (c_l : Nat) (a_cuts : Option Addr) (l_cuts : Nat) (c_cuts : Nat) (H : Heap) (K : Value → Heap → Prop) : Prop :=
  Fn 14 [.int .i64 i_room] H fun v H => RtT 2 v fun ts => RtP (ts.getD 0 undef) fun p19 => RtI .i64 (ts.getD 1 undef) fun i19 => Fn 37 [.int .i64 i_room] H fun v H
    => RtT 2 v fun ts_1 => RtP (ts_1.getD 0 undef) fun p24 => RtI .i64 (ts_1.getD 1 undef) fun i24 => BrB ((i24 : Int) != 0) (BrB ((i19 : Int) == i24) (Fn 13 [] H
    fun v H => RtB v fun b37 => K (.bool b37) H) (K (.bool false) H)) (Fn 30 [.slice a_l l_l c_l] H fun v H => RtB v fun b31 => BrB b31 (BrB ((i19 : Int) == i24)
    (Fn 13 [] H fun v H => RtB v fun b37_1 => K (.bool b37_1) H) (K (.bool false) H)) (Lp (fun (I : Int → Heap → Prop) (_ : Int → Heap → Nat) => I 0 H) (fun I M =>
    ∀ _ : Fr, ∀ i_i : Int, ∀ H0 : Heap, I i_i H0 → At H0 fun H => BrB (decide ((i_i : Int) < ((l_l : Nat) : Int))) (Idx a_l l_l i_i 5 fun e48 => Ld (rowV H e48 5)
    fun w49 => RtA 5 w49 fun ws => RtI .u8 (ws.getD 0 undef) fun i49 => RtS (ws.getD 1 undef) fun s49 => RtS (ws.getD 2 undef) fun s49_1 => RtI .i64 (ws.getD 3
    undef) fun i49_1 => RtL (ws.getD 4 undef) fun a49 l49 c49 => Fn 31 [.pointer p19, .agg ⟨[.int .u8 i49, .string s49, .string s49_1, .int .i64 i49_1, .slice a49
    l49 c49]⟩] H fun v H => RtI .i64 v fun i50 => Idx a_l l_l i_i 5 fun e54 => Ld (rowV H e54 5) fun w55 => RtA 5 w55 fun ws_1 => RtI .u8 (ws_1.getD 0 undef) fun
    i55 => RtS (ws_1.getD 1 undef) fun s55 => RtS (ws_1.getD 2 undef) fun s55_1 => RtI .i64 (ws_1.getD 3 undef) fun i55_1 => RtL (ws_1.getD 4 undef) fun a55 l55
    c55 => Fn 38 [.pointer p24, .agg ⟨[.int .u8 i55, .string s55, .string s55_1, .int .i64 i55_1, .slice a55 l55 c55]⟩] H fun v H => RtI .i64 v fun i56 => I
    (IntKind.wrap .i64 (i_i + 1)) H ∧ M (IntKind.wrap .i64 (i_i + 1)) H < M i_i H0) (Fn 40 [.slice a_cuts l_cuts c_cuts] H fun v H => RtL v fun a58 l58 c58 => Fn
    20 [.pointer p19, .slice a58 l58 c58] H fun v H => RtT 2 v fun ts_2 => RtP (ts_2.getD 0 undef) fun p62 => RtI .i64 (ts_2.getD 1 undef) fun i62 => Fn 41
    [.pointer p24, .slice a_cuts l_cuts c_cuts] H fun v H => RtP v fun p67 => New H (.cells ⟨[.int .u8 0, .string (str []), .string (str []), .int .i64 0, .slice
    none 0 0]⟩ 50) fun nb H => StV H ⟨nb, 0, none⟩ 5 [.int .u8 0, .string (str [97]), .string (str []), .int .i64 0, .slice none 0 0] fun H => BrB ((i62 : Int) ==
    0) (Fn 42 [.slice a58 l58 c58, .slice a_cuts l_cuts c_cuts] H fun v H => RtB v fun b74 => BrB b74 (Ld (rowV H ⟨nb, 0, none⟩ 5) fun w79 => RtA 5 w79 fun ws_2 =>
    RtI .u8 (ws_2.getD 0 undef) fun i79 => RtS (ws_2.getD 1 undef) fun s79 => RtS (ws_2.getD 2 undef) fun s79_1 => RtI .i64 (ws_2.getD 3 undef) fun i79_1 => RtL
    (ws_2.getD 4 undef) fun a79 l79 c79 => Fn 39 [.pointer p62, .pointer p67, .agg ⟨[.int .u8 i79, .string s79, .string s79_1, .int .i64 i79_1, .slice a79 l79
    c79]⟩] H fun v H => RtB v fun b80 => BrB b80 (Ld (rowV H ⟨nb, 0, none⟩ 5) fun w85 => RtA 5 w85 fun ws_3 => RtI .u8 (ws_3.getD 0 undef) fun i85 => RtS
    (ws_3.getD 1 undef) fun s85 => RtS (ws_3.getD 2 undef) fun s85_1 => RtI .i64 (ws_3.getD 3 undef) fun i85_1 => RtL (ws_3.getD 4 undef) fun a85 l85 c85 => Fn 39
    [.pointer p19, .pointer p24, .agg ⟨[.int .u8 i85, .string s85, .string s85_1, .int .i64 i85_1, .slice a85 l85 c85]⟩] H fun v H => RtB v fun b86 => BrB b86 (Fn
    13 [] H fun v H => RtB v fun b89 => K (.bool b89) H) (K (.bool false) H)) (K (.bool false) H)) (K (.bool false) H)) (K (.bool false) H)))))
def tb10 : Tab := { ord := [], ent := [], lp := [(6, [(11, .one (.int .i64))])], jn := [] }
theorem F10_eq (i_room : Int) (a_l : Option Addr) (l_l : Nat) (c_l : Nat) (a_cuts : Option Addr) (l_cuts : Nat) (c_cuts : Nat) (H : Heap) (K : Value → Heap → Prop) : F10 i_room a_l l_l c_l a_cuts l_cuts c_cuts H K = FnW Try.prog tb10 10 [.int .i64 i_room, .slice a_l l_l c_l, .slice a_cuts l_cuts c_cuts] H K := by kernel_rfl
theorem F10_is : isFnB Try.prog 10 = true := by kernel_rfl
theorem F10_ok (i_room : Int) (a_l : Option Addr) (l_l : Nat) (c_l : Nat) (a_cuts : Option Addr) (l_cuts : Nat) (c_cuts : Nat) {H : Heap} {K : Value → Heap → Prop} (h : F10 i_room a_l l_l c_l a_cuts l_cuts c_cuts H K) : Fn 10 [.int .i64 i_room, .slice a_l l_l c_l, .slice a_cuts l_cuts c_cuts] H K :=
  FnH.of_W mixed F10_is (by kernel_rfl) (cast (F10_eq i_room a_l l_l c_l a_cuts l_cuts c_cuts H K) h)

/- stook/stooklaw14.SimfsTwice -/
def F11 (i_room : Int) (a_l : Option Addr) (l_l : Nat) (c_l : Nat) (a_cuts : Option Addr) (l_cuts : Nat) (c_cuts : Nat) (a_more : Option Addr) (l_more : Nat) (c_more : Nat) (a_other : Option Addr) (l_other : Nat) (c_other : Nat) (H : Heap) (K : Value → Heap → Prop) : Prop :=
  Fn 14 [.int .i64 i_room] H fun v H => RtT 2 v fun ts => RtP (ts.getD 0 undef) fun p29 => RtI .i64 (ts.getD 1 undef) fun i29 => Fn 37 [.int .i64 i_room] H fun v H
    => RtT 2 v fun ts_1 => RtP (ts_1.getD 0 undef) fun p34 => RtI .i64 (ts_1.getD 1 undef) fun i34 => BrB ((i34 : Int) != 0) (BrB ((i29 : Int) == i34) (Fn 13 [] H
    fun v H => RtB v fun b51 => K (.bool b51) H) (K (.bool false) H)) (Fn 30 [.slice a_l l_l c_l] H fun v H => RtB v fun b41 => BrB b41 (BrB ((i29 : Int) == i34)
    (Fn 13 [] H fun v H => RtB v fun b51_1 => K (.bool b51_1) H) (K (.bool false) H)) (Fn 30 [.slice a_more l_more c_more] H fun v H => RtB v fun b45 => BrB b45
    (BrB ((i29 : Int) == i34) (Fn 13 [] H fun v H => RtB v fun b51_2 => K (.bool b51_2) H) (K (.bool false) H)) (Lp (fun (I : Int → Heap → Prop) (_ : Int → Heap →
    Nat) => I 0 H) (fun I M => ∀ _ : Fr, ∀ i_i : Int, ∀ H0 : Heap, I i_i H0 → At H0 fun H => BrB (decide ((i_i : Int) < ((l_l : Nat) : Int))) (Idx a_l l_l i_i 5
    fun e62 => Ld (rowV H e62 5) fun w63 => RtA 5 w63 fun ws => RtI .u8 (ws.getD 0 undef) fun i63 => RtS (ws.getD 1 undef) fun s63 => RtS (ws.getD 2 undef) fun
    s63_1 => RtI .i64 (ws.getD 3 undef) fun i63_1 => RtL (ws.getD 4 undef) fun a63 l63 c63 => Fn 31 [.pointer p29, .agg ⟨[.int .u8 i63, .string s63, .string s63_1,
    .int .i64 i63_1, .slice a63 l63 c63]⟩] H fun v H => RtI .i64 v fun i64 => Idx a_l l_l i_i 5 fun e68 => Ld (rowV H e68 5) fun w69 => RtA 5 w69 fun ws_1 => RtI
    .u8 (ws_1.getD 0 undef) fun i69 => RtS (ws_1.getD 1 undef) fun s69 => RtS (ws_1.getD 2 undef) fun s69_1 => RtI .i64 (ws_1.getD 3 undef) fun i69_1 => RtL
    (ws_1.getD 4 undef) fun a69 l69 c69 => Fn 38 [.pointer p34, .agg ⟨[.int .u8 i69, .string s69, .string s69_1, .int .i64 i69_1, .slice a69 l69 c69]⟩] H fun v H
    => RtI .i64 v fun i70 => I (IntKind.wrap .i64 (i_i + 1)) H ∧ M (IntKind.wrap .i64 (i_i + 1)) H < M i_i H0) (Fn 20 [.pointer p29, .slice a_cuts l_cuts c_cuts] H
    fun v H => RtT 2 v fun ts_2 => RtP (ts_2.getD 0 undef) fun p74 => RtI .i64 (ts_2.getD 1 undef) fun i74 => Fn 41 [.pointer p34, .slice a_cuts l_cuts c_cuts] H
    fun v H => RtP v fun p79 => Fn 20 [.pointer p74, .slice a_other l_other c_other] H fun v H => RtT 2 v fun ts_3 => RtP (ts_3.getD 0 undef) fun p83 => RtI .i64
    (ts_3.getD 1 undef) fun i83 => Fn 43 [.pointer p74] H fun v H => RtP v fun p87 => New H (.cells ⟨[.int .u8 0, .string (str []), .string (str []), .int .i64 0,
    .slice none 0 0]⟩ 50) fun nb H => StV H ⟨nb, 0, none⟩ 5 [.int .u8 0, .string (str [97]), .string (str []), .int .i64 0, .slice none 0 0] fun H => BrB ((i83 :
    Int) != 0) (K (.bool false) H) (BrB (Option.isNone p87) (K (.bool false) H) (Ld (rowV H ⟨nb, 0, none⟩ 5) fun w98 => RtA 5 w98 fun ws_2 => RtI .u8 (ws_2.getD 0
    undef) fun i98 => RtS (ws_2.getD 1 undef) fun s98 => RtS (ws_2.getD 2 undef) fun s98_1 => RtI .i64 (ws_2.getD 3 undef) fun i98_1 => RtL (ws_2.getD 4 undef) fun
    a98 l98 c98 => Fn 39 [.pointer p83, .pointer p79, .agg ⟨[.int .u8 i98, .string s98, .string s98_1, .int .i64 i98_1, .slice a98 l98 c98]⟩] H fun v H => RtB v
    fun b99 => BrB (!b99) (K (.bool false) H) (Fn 44 [.pointer p79] H fun v H => RtP v fun p103 => Lp (fun (I_1 : Int → Heap → Prop) (_ : Int → Heap → Nat) => I_1
    0 H) (fun I_1 M_1 => ∀ _ : Fr, ∀ i_k : Int, ∀ H0_1 : Heap, I_1 i_k H0_1 → At H0_1 fun H => BrB (decide ((i_k : Int) < ((l_more : Nat) : Int))) (Idx a_more
    l_more i_k 5 fun e113 => Ld (rowV H e113 5) fun w114 => RtA 5 w114 fun ws_3 => RtI .u8 (ws_3.getD 0 undef) fun i114 => RtS (ws_3.getD 1 undef) fun s114 => RtS
    (ws_3.getD 2 undef) fun s114_1 => RtI .i64 (ws_3.getD 3 undef) fun i114_1 => RtL (ws_3.getD 4 undef) fun a114 l114 c114 => Idx a_more l_more i_k 5 fun e119 =>
    Ld (rowV H e119 5) fun w120 => RtA 5 w120 fun ws_4 => RtI .u8 (ws_4.getD 0 undef) fun i120 => RtS (ws_4.getD 1 undef) fun s120 => RtS (ws_4.getD 2 undef) fun
    s120_1 => RtI .i64 (ws_4.getD 3 undef) fun i120_1 => RtL (ws_4.getD 4 undef) fun a120 l120 c120 => Fn 31 [.pointer p74, .agg ⟨[.int .u8 i114, .string s114,
    .string s114_1, .int .i64 i114_1, .slice a114 l114 c114]⟩] H fun v H => RtI .i64 v fun i115 => Ck (rowV H e119 5 = some w120) (Fn 38 [.pointer p79, .agg ⟨[.int
    .u8 i120, .string s120, .string s120_1, .int .i64 i120_1, .slice a120 l120 c120]⟩] H fun v H => RtI .i64 v fun i121 => BrB ((i115 : Int) != i121) (K (.bool
    false) H) (I_1 (IntKind.wrap .i64 (i_k + 1)) H ∧ M_1 (IntKind.wrap .i64 (i_k + 1)) H < M_1 i_k H0_1))) (Fn 20 [.pointer p74, .slice a_other l_other c_other] H
    fun v H => RtT 2 v fun ts_4 => RtP (ts_4.getD 0 undef) fun p126 => RtI .i64 (ts_4.getD 1 undef) fun i126 => Ld (rowV H ⟨nb, 0, none⟩ 5) fun w131 => RtA 5 w131
    fun ws_5 => RtI .u8 (ws_5.getD 0 undef) fun i131 => RtS (ws_5.getD 1 undef) fun s131 => RtS (ws_5.getD 2 undef) fun s131_1 => RtI .i64 (ws_5.getD 3 undef) fun
    i131_1 => RtL (ws_5.getD 4 undef) fun a131 l131 c131 => Fn 39 [.pointer p74, .pointer p79, .agg ⟨[.int .u8 i131, .string s131, .string s131_1, .int .i64
    i131_1, .slice a131 l131 c131]⟩] H fun v H => RtB v fun b132 => BrB b132 (Ld (rowV H ⟨nb, 0, none⟩ 5) fun w138 => RtA 5 w138 fun ws_6 => RtI .u8 (ws_6.getD 0
    undef) fun i138 => RtS (ws_6.getD 1 undef) fun s138 => RtS (ws_6.getD 2 undef) fun s138_1 => RtI .i64 (ws_6.getD 3 undef) fun i138_1 => RtL (ws_6.getD 4 undef)
    fun a138 l138 c138 => Fn 41 [.pointer p79, .slice a_other l_other c_other] H fun v H => RtP v fun p137 => Ck (rowV H ⟨nb, 0, none⟩ 5 = some w138) (Fn 39
    [.pointer p126, .pointer p137, .agg ⟨[.int .u8 i138, .string s138, .string s138_1, .int .i64 i138_1, .slice a138 l138 c138]⟩] H fun v H => RtB v fun b139 =>
    BrB b139 (Ld (rowV H ⟨nb, 0, none⟩ 5) fun w144 => RtA 5 w144 fun ws_7 => RtI .u8 (ws_7.getD 0 undef) fun i144 => RtS (ws_7.getD 1 undef) fun s144 => RtS
    (ws_7.getD 2 undef) fun s144_1 => RtI .i64 (ws_7.getD 3 undef) fun i144_1 => RtL (ws_7.getD 4 undef) fun a144 l144 c144 => Fn 39 [.pointer p87, .pointer p103,
    .agg ⟨[.int .u8 i144, .string s144, .string s144_1, .int .i64 i144_1, .slice a144 l144 c144]⟩] H fun v H => RtB v fun b145 => BrB b145 (Fn 13 [] H fun v H =>
    RtB v fun b148 => K (.bool b148) H) (K (.bool false) H)) (K (.bool false) H))) (K (.bool false) H)))))))))))
def tb11 : Tab := { ord := [(21, [0, 1, 2, 3, 4, 6, 7, 8, 9, 10, 5, 11, 12]), (24, [0, 1, 2, 3, 4, 5, 6, 7, 9, 8, 10, 11, 12, 13, 14, 15, 16, 17, 18, 19, 20, 21])], ent := [], lp := [(6, [(15, .one (.int .i64))]), (19, [(24, .one (.int .i64))])], jn := [] }
theorem F11_eq (i_room : Int) (a_l : Option Addr) (l_l : Nat) (c_l : Nat) (a_cuts : Option Addr) (l_cuts : Nat) (c_cuts : Nat) (a_more : Option Addr) (l_more : Nat) (c_more : Nat) (a_other : Option Addr) (l_other : Nat) (c_other : Nat) (H : Heap) (K : Value → Heap → Prop) : F11 i_room a_l l_l c_l a_cuts l_cuts c_cuts a_more l_more c_more a_other l_other c_other H K = FnW Try.prog tb11 11 [.int .i64 i_room, .slice a_l l_l c_l, .slice a_cuts l_cuts c_cuts, .slice a_more l_more c_more, .slice a_other l_other c_other] H K := by kernel_rfl
theorem F11_is : isFnB Try.prog 11 = true := by kernel_rfl
theorem F11_ok (i_room : Int) (a_l : Option Addr) (l_l : Nat) (c_l : Nat) (a_cuts : Option Addr) (l_cuts : Nat) (c_cuts : Nat) (a_more : Option Addr) (l_more : Nat) (c_more : Nat) (a_other : Option Addr) (l_other : Nat) (c_other : Nat) {H : Heap} {K : Value → Heap → Prop} (h : F11 i_room a_l l_l c_l a_cuts l_cuts c_cuts a_more l_more c_more a_other l_other c_other H K) : Fn 11 [.int .i64 i_room, .slice a_l l_l c_l, .slice a_cuts l_cuts c_cuts, .slice a_more l_more c_more, .slice a_other l_other c_other] H K :=
  FnH.of_W mixed F11_is (by kernel_rfl) (cast (F11_eq i_room a_l l_l c_l a_cuts l_cuts c_cuts a_more l_more c_more a_other l_other c_other H K) h)

/- stook/stooklaw14.SimfsNil -/
def F12 (i_o : Int) (s_o : ByteArray) (s_o_1 : ByteArray) (i_o_1 : Int) (a_o : Option Addr) (l_o : Nat) (c_o : Nat) (a_cuts : Option Addr) (l_cuts : Nat) (c_cuts : Nat) (H : Heap) (K : Value → Heap → Prop) : Prop :=
  New H (.cells ⟨[.int .u8 i_o, .string s_o, .string s_o_1, .int .i64 i_o_1, .slice a_o l_o c_o]⟩ 50) fun nb H => New H (.cells ⟨[.bool false, .int .i64 0, .int
    .i64 0, .map none, .int .i64 0, .map none, .map none, .slice none 0 0, .int .i64 0, .int .i64 0, .bool false]⟩ 73) fun nb_1 H => Fn 20 [.pointer none, .slice
    a_cuts l_cuts c_cuts] H fun v H => RtT 2 v fun ts => RtP (ts.getD 0 undef) fun p20 => RtI .i64 (ts.getD 1 undef) fun i20 => Fn 20 [.pointer (some ⟨nb_1, 0,
    none⟩), .slice a_cuts l_cuts c_cuts] H fun v H => RtT 2 v fun ts_1 => RtP (ts_1.getD 0 undef) fun p26 => RtI .i64 (ts_1.getD 1 undef) fun i26 => Ld (cellH H
    (Addr.add ⟨nb, 0, none⟩ 1)) fun w32 => RtS w32 fun s32 => Ld (cellH H (Addr.add ⟨nb, 0, none⟩ 3)) fun w34 => RtI .i64 w34 fun i34 => Fn 21 [.pointer none,
    .string s32, .int .i64 i34, .int .i64 1] H fun v H => RtT 2 v fun ts_2 => RtL (ts_2.getD 0 undef) fun a35 l35 c35 => RtI .i64 (ts_2.getD 1 undef) fun i35 => Ld
    (cellH H (Addr.add ⟨nb, 0, none⟩ 1)) fun w41 => RtS w41 fun s41 => Fn 45 [.pointer (some ⟨nb_1, 0, none⟩), .string s41] H fun v H => RtT 2 v fun ts_3 => RtI
    .i64 (ts_3.getD 0 undef) fun i42 => RtI .i64 (ts_3.getD 1 undef) fun i42_1 => Ld (cellH H (Addr.add ⟨nb, 0, none⟩ 0)) fun w46 => RtI .u8 w46 fun i46 => BrB
    (decide ((i46 : Int) ≤ 8)) (Ld (rowV H ⟨nb, 0, none⟩ 5) fun w50 => RtA 5 w50 fun ws => RtI .u8 (ws.getD 0 undef) fun i50 => RtS (ws.getD 1 undef) fun s50 =>
    RtS (ws.getD 2 undef) fun s50_1 => RtI .i64 (ws.getD 3 undef) fun i50_1 => RtL (ws.getD 4 undef) fun a50 l50 c50 => Fn 31 [.pointer none, .agg ⟨[.int .u8 i50,
    .string s50, .string s50_1, .int .i64 i50_1, .slice a50 l50 c50]⟩] H fun v H => RtI .i64 v fun i51 => BrB ((i51 : Int) != 1) (K (.bool false) H) (Ld (rowV H
    ⟨nb, 0, none⟩ 5) fun w55 => RtA 5 w55 fun ws_1 => RtI .u8 (ws_1.getD 0 undef) fun i55 => RtS (ws_1.getD 1 undef) fun s55 => RtS (ws_1.getD 2 undef) fun s55_1
    => RtI .i64 (ws_1.getD 3 undef) fun i55_1 => RtL (ws_1.getD 4 undef) fun a55 l55 c55 => Fn 31 [.pointer (some ⟨nb_1, 0, none⟩), .agg ⟨[.int .u8 i55, .string
    s55, .string s55_1, .int .i64 i55_1, .slice a55 l55 c55]⟩] H fun v H => RtI .i64 v fun i56 => BrB ((i56 : Int) != 1) (K (.bool false) H) (BrB (Option.isNone
    p20) (BrB (Option.isNone p26) (BrB ((i20 : Int) == 1) (BrB ((i26 : Int) == 1) (BrB ((i35 : Int) == 1) (BrB ((i42_1 : Int) == 1) (Fn 43 [.pointer none] H fun v
    H => RtP v fun p84 => BrB (Option.isNone p84) (Fn 43 [.pointer (some ⟨nb_1, 0, none⟩)] H fun v H => RtP v fun p89 => BrB (Option.isNone p89) (Fn 28 [.pointer
    none] H fun v H => RtL v fun a94 l94 c94 => Fn 28 [.pointer (some ⟨nb_1, 0, none⟩)] H fun v H => RtL v fun a97 l97 c97 => Fn 33 [.pointer none] H fun v H =>
    RtI .i64 v fun i101 => Fn 33 [.pointer (some ⟨nb_1, 0, none⟩)] H fun v H => RtI .i64 v fun i104 => Fn 36 [.pointer none] H fun v H => RtI .i64 v fun i107 => Fn
    36 [.pointer (some ⟨nb_1, 0, none⟩)] H fun v H => RtI .i64 v fun i110 => Fn 32 [.pointer none] H fun v H => RtI .i64 v fun i113 => Fn 32 [.pointer (some ⟨nb_1,
    0, none⟩)] H fun v H => RtI .i64 v fun i116 => BrB ((IntKind.wrap .i64 ((IntKind.wrap .i64 ((IntKind.wrap .i64 ((IntKind.wrap .i64 ((IntKind.wrap .i64
    ((IntKind.wrap .i64 ((IntKind.wrap .i64 (((l94 : Nat) : Int) + ((l97 : Nat) : Int))) + i101)) + i104)) + i107)) + i110)) + i113)) + i116) : Int) == 0) (Fn 34
    [.pointer none] H fun v H => RtB v fun b122 => BrB (!b122) (Fn 34 [.pointer (some ⟨nb_1, 0, none⟩)] H fun v H => RtB v fun b127 => BrB (!b127) (Fn 13 [] H fun
    v H => RtB v fun b131 => K (.bool b131) H) (K (.bool false) H)) (K (.bool false) H)) (K (.bool false) H)) (K (.bool false) H)) (K (.bool false) H)) (K (.bool
    false) H)) (K (.bool false) H)) (K (.bool false) H)) (K (.bool false) H)) (K (.bool false) H)) (K (.bool false) H)))) (BrB (Option.isNone p20) (BrB
    (Option.isNone p26) (BrB ((i20 : Int) == 1) (BrB ((i26 : Int) == 1) (BrB ((i35 : Int) == 1) (BrB ((i42_1 : Int) == 1) (Fn 43 [.pointer none] H fun v H => RtP v
    fun p84_1 => BrB (Option.isNone p84_1) (Fn 43 [.pointer (some ⟨nb_1, 0, none⟩)] H fun v H => RtP v fun p89_1 => BrB (Option.isNone p89_1) (Fn 28 [.pointer
    none] H fun v H => RtL v fun a94_1 l94_1 c94_1 => Fn 28 [.pointer (some ⟨nb_1, 0, none⟩)] H fun v H => RtL v fun a97_1 l97_1 c97_1 => Fn 33 [.pointer none] H
    fun v H => RtI .i64 v fun i101_1 => Fn 33 [.pointer (some ⟨nb_1, 0, none⟩)] H fun v H => RtI .i64 v fun i104_1 => Fn 36 [.pointer none] H fun v H => RtI .i64 v
    fun i107_1 => Fn 36 [.pointer (some ⟨nb_1, 0, none⟩)] H fun v H => RtI .i64 v fun i110_1 => Fn 32 [.pointer none] H fun v H => RtI .i64 v fun i113_1 => Fn 32
    [.pointer (some ⟨nb_1, 0, none⟩)] H fun v H => RtI .i64 v fun i116_1 => BrB ((IntKind.wrap .i64 ((IntKind.wrap .i64 ((IntKind.wrap .i64 ((IntKind.wrap .i64
    ((IntKind.wrap .i64 ((IntKind.wrap .i64 ((IntKind.wrap .i64 (((l94_1 : Nat) : Int) + ((l97_1 : Nat) : Int))) + i101_1)) + i104_1)) + i107_1)) + i110_1)) +
    i113_1)) + i116_1) : Int) == 0) (Fn 34 [.pointer none] H fun v H => RtB v fun b122_1 => BrB (!b122_1) (Fn 34 [.pointer (some ⟨nb_1, 0, none⟩)] H fun v H => RtB
    v fun b127_1 => BrB (!b127_1) (Fn 13 [] H fun v H => RtB v fun b131_1 => K (.bool b131_1) H) (K (.bool false) H)) (K (.bool false) H)) (K (.bool false) H)) (K
    (.bool false) H)) (K (.bool false) H)) (K (.bool false) H)) (K (.bool false) H)) (K (.bool false) H)) (K (.bool false) H)) (K (.bool false) H)) (K (.bool
    false) H))
def tb12 : Tab := { ord := [], ent := [], lp := [], jn := [] }
theorem F12_eq (i_o : Int) (s_o : ByteArray) (s_o_1 : ByteArray) (i_o_1 : Int) (a_o : Option Addr) (l_o : Nat) (c_o : Nat) (a_cuts : Option Addr) (l_cuts : Nat) (c_cuts : Nat) (H : Heap) (K : Value → Heap → Prop) : F12 i_o s_o s_o_1 i_o_1 a_o l_o c_o a_cuts l_cuts c_cuts H K = FnW Try.prog tb12 12 [.agg ⟨[.int .u8 i_o, .string s_o, .string s_o_1, .int .i64 i_o_1, .slice a_o l_o c_o]⟩, .slice a_cuts l_cuts c_cuts] H K := by kernel_rfl
theorem F12_is : isFnB Try.prog 12 = true := by kernel_rfl
theorem F12_ok (i_o : Int) (s_o : ByteArray) (s_o_1 : ByteArray) (i_o_1 : Int) (a_o : Option Addr) (l_o : Nat) (c_o : Nat) (a_cuts : Option Addr) (l_cuts : Nat) (c_cuts : Nat) {H : Heap} {K : Value → Heap → Prop} (h : F12 i_o s_o s_o_1 i_o_1 a_o l_o c_o a_cuts l_cuts c_cuts H K) : Fn 12 [.agg ⟨[.int .u8 i_o, .string s_o, .string s_o_1, .int .i64 i_o_1, .slice a_o l_o c_o]⟩, .slice a_cuts l_cuts c_cuts] H K :=
  FnH.of_W mixed F12_is (by kernel_rfl) (cast (F12_eq i_o s_o s_o_1 i_o_1 a_o l_o c_o a_cuts l_cuts c_cuts H K) h)

/- stook/stooklaw14.works -/
def F13 (H : Heap) (K : Value → Heap → Prop) : Prop :=
  Fn 14 [.int .i64 10] H fun v H => RtT 2 v fun ts => RtP (ts.getD 0 undef) fun p8 => RtI .i64 (ts.getD 1 undef) fun i8 => BrB ((i8 : Int) != 0) (K (.bool false)
    H) (BrB (Option.isNone p8) (K (.bool false) H) (Fn 15 [.pointer p8, .string (str [97])] H fun v H => RtI .i64 v fun i19 => BrB ((i19 : Int) != 0) (K (.bool
    false) H) (Smk Try.prog (Instr.buildSlice 22 2 ⟨[(0, .int .u8 97), (1, .int .u8 98)]⟩) H fun v H => RtL v fun a24 l24 c24 => Smk Try.prog (convert 22 22
    (.slice a24 l24 c24)) H fun v H => RtL v fun a25 l25 c25 => Fn 16 [.pointer p8, .string (str [97]), .slice a25 l25 c25] H fun v H => RtI .i64 v fun i26 => BrB
    ((i26 : Int) != 0) (K (.bool false) H) (Fn 17 [.pointer p8, .string (str [97])] H fun v H => RtI .i64 v fun i31 => BrB ((i31 : Int) != 0) (K (.bool false) H)
    (Fn 18 [.pointer p8] H fun v H => RtI .i64 v fun i36 => BrB ((i36 : Int) != 0) (K (.bool false) H) (Smk Try.prog (Instr.buildSlice 22 2 ⟨[(0, .int .u8 99), (1,
    .int .u8 100)]⟩) H fun v H => RtL v fun a41 l41 c41 => Smk Try.prog (convert 22 22 (.slice a41 l41 c41)) H fun v H => RtL v fun a42 l42 c42 => Fn 16 [.pointer
    p8, .string (str [97]), .slice a42 l42 c42] H fun v H => RtI .i64 v fun i43 => BrB ((i43 : Int) != 0) (K (.bool false) H) (Smk Try.prog (Instr.buildSlice 23 3
    ⟨[(0, .int .i64 0), (1, .int .i64 0), (2, .int .i64 1)]⟩) H fun v H => RtL v fun a48 l48 c48 => Fn 20 [.pointer p8, .slice a48 l48 c48] H fun v H => RtT 2 v
    fun ts_1 => RtP (ts_1.getD 0 undef) fun p49 => RtI .i64 (ts_1.getD 1 undef) fun i49 => Fn 21 [.pointer p49, .string (str [97]), .int .i64 0, .int .i64 9] H fun
    v H => RtT 2 v fun ts_2 => RtL (ts_2.getD 0 undef) fun a54 l54 c54 => RtI .i64 (ts_2.getD 1 undef) fun i54 => BrB ((i49 : Int) == 0) (BrB ((i54 : Int) == 0)
    (Smk Try.prog (convert 22 9 (.slice a54 l54 c54)) H fun v H => RtS v fun s65 => K (.bool (s65.toList == (str [97, 98, 99]).toList)) H) (K (.bool false) H)) (K
    (.bool false) H))))))))
def tb13 : Tab := { ord := [], ent := [], lp := [], jn := [] }
theorem F13_eq (H : Heap) (K : Value → Heap → Prop) : F13 H K = FnW Try.prog tb13 13 [] H K := by kernel_rfl
theorem F13_is : isFnB Try.prog 13 = true := by kernel_rfl
theorem F13_ok {H : Heap} {K : Value → Heap → Prop} (h : F13 H K) : Fn 13 [] H K :=
  FnH.of_W mixed F13_is (by kernel_rfl) (cast (F13_eq H K) h)

/- stook/simfs.New -/
def F14 (i_room : Int) (H : Heap) (K : Value → Heap → Prop) : Prop :=
  BrB (decide ((i_room : Int) < 0)) (K (.tuple ⟨[.pointer none, .int .i64 2]⟩) H) (BrB (decide ((i_room : Int) > 1048576)) (K (.tuple ⟨[.pointer none, .int .i64
    2]⟩) H) (New H (.map ⟨[]⟩ 0) fun nb H => New H (.map ⟨[]⟩ 0) fun nb_1 H => New H (.map ⟨[]⟩ 0) fun nb_2 H => New H (.cells ⟨[.bool true, .int .i64 i_room, .int
    .i64 0, .map (some nb), .int .i64 0, .map (some nb_1), .map (some nb_2), .slice none 0 0, .int .i64 0, .int .i64 0, .bool false]⟩ 73) fun nb_3 H => K (.tuple
    ⟨[.pointer (some ⟨nb_3, 0, none⟩), .int .i64 0]⟩) H))
def tb14 : Tab := { ord := [], ent := [], lp := [], jn := [] }
theorem F14_eq (i_room : Int) (H : Heap) (K : Value → Heap → Prop) : F14 i_room H K = FnW Try.prog tb14 14 [.int .i64 i_room] H K := by kernel_rfl
theorem F14_is : isFnB Try.prog 14 = true := by kernel_rfl
theorem F14_ok (i_room : Int) {H : Heap} {K : Value → Heap → Prop} (h : F14 i_room H K) : Fn 14 [.int .i64 i_room] H K :=
  FnH.of_W mixed F14_is (by kernel_rfl) (cast (F14_eq i_room H K) h)

/- (*stook/simfs.FS).Create -/
def F15 (p_f : Option Addr) (s_name : ByteArray) (H : Heap) (K : Value → Heap → Prop) : Prop :=
  Fn 46 [.pointer p_f] H fun v H => RtI .i64 v fun i9 => BrB ((i9 : Int) != 0) (K (.int .i64 i9) H) (Fn 47 [.string s_name] H fun v H => RtB v fun b14 => BrB
    (!b14) (K (.int .i64 2) H) (NilC p_f fun q18 => Ld (cellH H (Addr.add q18 6)) fun w20 => RtM w20 fun m20 => Rv (Rd Try.prog (Instr.lookup 70 (.map m20)
    (.string s_name) true) H) fun w22 => RtT 2 w22 fun ts => RtI .i64 (ts.getD 0 undef) fun i22 => RtB (ts.getD 1 undef) fun b22 => BrB b22 (K (.int .i64 8) H)
    (NilC p_f fun q27 => Ld (cellH H (Addr.add q27 6)) fun w29 => RtM w29 fun m29 => Rv (Rd Try.prog (Builtin.len_ #[70] 3 #[.map m29]) H) fun w30 => RtI .i64 w30
    fun i30 => BrB (decide ((i30 : Int) ≥ 64)) (K (.int .i64 3) H) (NilC p_f fun q33 => Ld (cellH H (Addr.add q33 4)) fun w35 => RtI .i64 w35 fun i35 => NilC p_f
    fun q37 => StV H (Addr.add q37 4) 1 [.int .i64 (IntKind.wrap .i64 (i35 + 1))] fun H => NilC p_f fun q40 => Ld (cellH H (Addr.add q40 3)) fun w42 => RtM w42 fun
    m42 => NilC p_f fun q44 => Ld (cellH H (Addr.add q44 4)) fun w46 => RtI .i64 w46 fun i46 => New H (.cells ⟨[.slice none 0 0, .slice none 0 0, .slice none 0 0]⟩
    82) fun nb H => Ck (cellH H (Addr.add q44 4) = some w46) (Ck (cellH H (Addr.add q40 3) = some w42) (SmUk Try.prog (Instr.mapUpdate 69 (.map m42) (.int .i64
    i46) (.pointer (some ⟨nb, 0, none⟩))) H fun H => NilC p_f fun q52 => Ld (cellH H (Addr.add q52 4)) fun w54 => RtI .i64 w54 fun i54 => Fn 48 [.pointer p_f, .agg
    ⟨[.int .i64 0, .string (str []), .string s_name, .int .i64 i54]⟩] H fun v H => RtI .i64 v fun i56 => K (.int .i64 i56) H))))))
def tb15 : Tab := { ord := [(12, [0, 1, 2, 3, 4, 5, 6, 7, 8, 9, 10])], ent := [], lp := [], jn := [] }
theorem F15_eq (p_f : Option Addr) (s_name : ByteArray) (H : Heap) (K : Value → Heap → Prop) : F15 p_f s_name H K = FnW Try.prog tb15 15 [.pointer p_f, .string s_name] H K := by kernel_rfl
theorem F15_is : isFnB Try.prog 15 = true := by kernel_rfl
theorem F15_ok (p_f : Option Addr) (s_name : ByteArray) {H : Heap} {K : Value → Heap → Prop} (h : F15 p_f s_name H K) : Fn 15 [.pointer p_f, .string s_name] H K :=
  FnH.of_W mixed F15_is (by kernel_rfl) (cast (F15_eq p_f s_name H K) h)

/- (*stook/simfs.FS).Append -/
def F16 (p_f : Option Addr) (s_name : ByteArray) (a_b : Option Addr) (l_b : Nat) (c_b : Nat) (H : Heap) (K : Value → Heap → Prop) : Prop :=
  Fn 49 [.pointer p_f, .string s_name] H fun v H => RtT 2 v fun ts => RtP (ts.getD 0 undef) fun p12 => RtI .i64 (ts.getD 1 undef) fun i12 => BrB ((i12 : Int) != 0)
    (K (.int .i64 i12) H) (BrB (decide ((((l_b : Nat) : Int) : Int) > 0)) (NilC p_f fun q25 => Ld (cellH H (Addr.add q25 1)) fun w27 => RtI .i64 w27 fun i27 =>
    NilC p_f fun q29 => Ld (cellH H (Addr.add q29 2)) fun w31 => RtI .i64 w31 fun i31 => BrB (decide ((((l_b : Nat) : Int) : Int) > (IntKind.wrap .i64 (i27 -
    i31)))) (K (.int .i64 9) H) (NilC p12 fun q38 => Ld (cellH H (Addr.add q38 1)) fun w40 => RtL w40 fun a40 l40 c40 => Smk Try.prog (Builtin.append_ #[22, 22] 22
    ⟨[.slice none 0 0, .slice a_b l_b c_b]⟩) H fun v H => RtL v fun a43 l43 c43 => Ck (cellH H (Addr.add q38 1) = some w40) (Fn 50 [.pointer p_f, .pointer p12,
    .agg ⟨[.bool false, .int .i64 ((l40 : Nat) : Int), .slice a43 l43 c43]⟩] H fun v H => RtI .i64 v fun i45 => K (.int .i64 i45) H))) (NilC p12 fun q38_1 => Ld
    (cellH H (Addr.add q38_1 1)) fun w40_1 => RtL w40_1 fun a40_1 l40_1 c40_1 => Smk Try.prog (Builtin.append_ #[22, 22] 22 ⟨[.slice none 0 0, .slice a_b l_b
    c_b]⟩) H fun v H => RtL v fun a43_1 l43_1 c43_1 => Ck (cellH H (Addr.add q38_1 1) = some w40_1) (Fn 50 [.pointer p_f, .pointer p12, .agg ⟨[.bool false, .int
    .i64 ((l40_1 : Nat) : Int), .slice a43_1 l43_1 c43_1]⟩] H fun v H => RtI .i64 v fun i45_1 => K (.int .i64 i45_1) H)))
def tb16 : Tab := { ord := [(4, [0, 1, 2, 3, 4, 5, 6, 7, 8, 9, 10, 11, 12, 13, 14, 15, 16]), (6, [0, 1, 2, 3, 4, 5, 6, 7, 8, 9, 10, 11])], ent := [], lp := [], jn := [] }
theorem F16_eq (p_f : Option Addr) (s_name : ByteArray) (a_b : Option Addr) (l_b : Nat) (c_b : Nat) (H : Heap) (K : Value → Heap → Prop) : F16 p_f s_name a_b l_b c_b H K = FnW Try.prog tb16 16 [.pointer p_f, .string s_name, .slice a_b l_b c_b] H K := by kernel_rfl
theorem F16_is : isFnB Try.prog 16 = true := by kernel_rfl
theorem F16_ok (p_f : Option Addr) (s_name : ByteArray) (a_b : Option Addr) (l_b : Nat) (c_b : Nat) {H : Heap} {K : Value → Heap → Prop} (h : F16 p_f s_name a_b l_b c_b H K) : Fn 16 [.pointer p_f, .string s_name, .slice a_b l_b c_b] H K :=
  FnH.of_W mixed F16_is (by kernel_rfl) (cast (F16_eq p_f s_name a_b l_b c_b H K) h)

/- (*stook/simfs.FS).Sync -/
def F17 (p_f : Option Addr) (s_name : ByteArray) (H : Heap) (K : Value → Heap → Prop) : Prop :=
  Fn 49 [.pointer p_f, .string s_name] H fun v H => RtT 2 v fun ts => RtP (ts.getD 0 undef) fun p10 => RtI .i64 (ts.getD 1 undef) fun i10 => BrB ((i10 : Int) != 0)
    (K (.int .i64 i10) H) (Fn 51 [.pointer p_f] H fun v H => RtB v fun b17 => BrB b17 (K (.int .i64 13) H) (NilC p10 fun q21 => Ld (cellH H (Addr.add q21 1)) fun
    w23 => RtL w23 fun a23 l23 c23 => Smk Try.prog (Builtin.append_ #[22, 22] 22 ⟨[.slice none 0 0, .slice a23 l23 c23]⟩) H fun v H => RtL v fun a24 l24 c24 =>
    NilC p10 fun q25 => StV H (Addr.add q25 0) 1 [.slice a24 l24 c24] fun H => NilC p10 fun q27 => StV H (Addr.add q27 2) 1 [.slice none 0 0] fun H => K (.int .i64
    0) H))
def tb17 : Tab := { ord := [], ent := [], lp := [], jn := [] }
theorem F17_eq (p_f : Option Addr) (s_name : ByteArray) (H : Heap) (K : Value → Heap → Prop) : F17 p_f s_name H K = FnW Try.prog tb17 17 [.pointer p_f, .string s_name] H K := by kernel_rfl
theorem F17_is : isFnB Try.prog 17 = true := by kernel_rfl
theorem F17_ok (p_f : Option Addr) (s_name : ByteArray) {H : Heap} {K : Value → Heap → Prop} (h : F17 p_f s_name H K) : Fn 17 [.pointer p_f, .string s_name] H K :=
  FnH.of_W mixed F17_is (by kernel_rfl) (cast (F17_eq p_f s_name H K) h)

/- (*stook/simfs.FS).SyncDir -/
def F18 (p_f : Option Addr) (H : Heap) (K : Value → Heap → Prop) : Prop :=
  Fn 46 [.pointer p_f] H fun v H => RtI .i64 v fun i5 => BrB ((i5 : Int) != 0) (K (.int .i64 i5) H) (Fn 51 [.pointer p_f] H fun v H => RtB v fun b10 => BrB b10 (K
    (.int .i64 13) H) (NilC p_f fun q14 => Ld (cellH H (Addr.add q14 6)) fun w16 => RtM w16 fun m16 => Fn 52 [.map m16] H fun v H => RtM v fun m17 => NilC p_f fun
    q18 => StV H (Addr.add q18 5) 1 [.map m17] fun H => NilC p_f fun q20 => StV H (Addr.add q20 7) 1 [.slice none 0 0] fun H => K (.int .i64 0) H))
def tb18 : Tab := { ord := [], ent := [], lp := [], jn := [] }
theorem F18_eq (p_f : Option Addr) (H : Heap) (K : Value → Heap → Prop) : F18 p_f H K = FnW Try.prog tb18 18 [.pointer p_f] H K := by kernel_rfl
theorem F18_is : isFnB Try.prog 18 = true := by kernel_rfl
theorem F18_ok (p_f : Option Addr) {H : Heap} {K : Value → Heap → Prop} (h : F18 p_f H K) : Fn 18 [.pointer p_f] H K :=
  FnH.of_W mixed F18_is (by kernel_rfl) (cast (F18_eq p_f H K) h)

/- (*stook/simfs.FS).Rename -/
def F19 (p_f : Option Addr) (s_from : ByteArray) (s_to : ByteArray) (H : Heap) (K : Value → Heap → Prop) : Prop :=
  Fn 49 [.pointer p_f, .string s_from] H fun v H => RtT 2 v fun ts => RtP (ts.getD 0 undef) fun p12 => RtI .i64 (ts.getD 1 undef) fun i12 => BrB ((i12 : Int) != 0)
    (K (.int .i64 i12) H) (Fn 47 [.string s_to] H fun v H => RtB v fun b19 => BrB (!b19) (K (.int .i64 2) H) (Fn 48 [.pointer p_f, .agg ⟨[.int .i64 1, .string
    s_from, .string s_to, .int .i64 0]⟩] H fun v H => RtI .i64 v fun i25 => K (.int .i64 i25) H))
def tb19 : Tab := { ord := [], ent := [], lp := [], jn := [] }
theorem F19_eq (p_f : Option Addr) (s_from : ByteArray) (s_to : ByteArray) (H : Heap) (K : Value → Heap → Prop) : F19 p_f s_from s_to H K = FnW Try.prog tb19 19 [.pointer p_f, .string s_from, .string s_to] H K := by kernel_rfl
theorem F19_is : isFnB Try.prog 19 = true := by kernel_rfl
theorem F19_ok (p_f : Option Addr) (s_from : ByteArray) (s_to : ByteArray) {H : Heap} {K : Value → Heap → Prop} (h : F19 p_f s_from s_to H K) : Fn 19 [.pointer p_f, .string s_from, .string s_to] H K :=
  FnH.of_W mixed F19_is (by kernel_rfl) (cast (F19_eq p_f s_from s_to H K) h)

/- (*stook/simfs.FS).Fail -/
def F20 (p_f : Option Addr) (a_cuts : Option Addr) (l_cuts : Nat) (c_cuts : Nat) (H : Heap) (K : Value → Heap → Prop) : Prop :=
  New H (.cells ⟨[.slice a_cuts l_cuts c_cuts]⟩ 23) fun nb H => BrB (Option.isNone p_f) (K (.tuple ⟨[.pointer none, .int .i64 1]⟩) H) (NilC p_f fun q19 => Ld
    (cellH H (Addr.add q19 0)) fun w21 => RtB w21 fun b21 => BrB (!b21) (K (.tuple ⟨[.pointer none, .int .i64 1]⟩) H) (NilC p_f fun q26 => Ld (cellH H (Addr.add
    q26 5)) fun w28 => RtM w28 fun m28 => Fn 52 [.map m28] H fun v H => RtM v fun m29 => NilC p_f fun q31 => Ld (cellH H (Addr.add q31 7)) fun w33 => RtL w33 fun
    a33 l33 c33 => NilC p_f fun q36 => Ld (cellH H (Addr.add q36 7)) fun w38 => RtL w38 fun a38 l38 c38 => CallK Try.prog (.func (.func 53) ⟨[]⟩ ⟨[.pointer (some
    ⟨nb, 0, none⟩)]⟩) ⟨[.int .i64 (IntKind.wrap .i64 (((l38 : Nat) : Int) + 1))]⟩ H fun v H => RtI .i64 v fun i41 => Ck (cellH H (Addr.add q31 7) = some w33) (Ck
    ((0 : Int) ≤ 0 ∧ (0 : Int) ≤ i41 ∧ (i41 : Int) ≤ ((c33 : Nat) : Int) ∧ (((c33 : Nat) : Int) : Int) ≤ ((c33 : Nat) : Int)) (Lp (fun (I : Int → Heap → Prop) (_ :
    Int → Heap → Nat) => I 0 H) (fun I M => ∀ _ : Fr, ∀ i44 : Int, ∀ H0 : Heap, I i44 H0 → At H0 fun H => BrB (decide ((i44 : Int) < ((slN 0 i41 : Nat) : Int)))
    (Idx (slA a33 0 ((c33 : Nat) : Int) 4) (slN 0 i41) i44 4 fun e46 => Ld (rowV H e46 4) fun w47 => RtA 4 w47 fun ws => RtI .i64 (ws.getD 0 undef) fun i47 => RtS
    (ws.getD 1 undef) fun s47 => RtS (ws.getD 2 undef) fun s47_1 => RtI .i64 (ws.getD 3 undef) fun i47_1 => New H (.cells ⟨[.int .i64 0, .string (str []), .string
    (str []), .int .i64 0]⟩ 85) fun nb_1 H => StV H ⟨nb_1, 0, none⟩ 4 [.int .i64 i47, .string s47, .string s47_1, .int .i64 i47_1] fun H => Ld (rowV H ⟨nb_1, 0,
    none⟩ 4) fun w48 => RtA 4 w48 fun ws_1 => RtI .i64 (ws_1.getD 0 undef) fun i48 => RtS (ws_1.getD 1 undef) fun s48 => RtS (ws_1.getD 2 undef) fun s48_1 => RtI
    .i64 (ws_1.getD 3 undef) fun i48_1 => Fn 54 [.agg ⟨[.int .i64 i48, .string s48, .string s48_1, .int .i64 i48_1]⟩, .map m29] H fun v H => Rt0 v (I (IntKind.wrap
    .i64 (i44 + 1)) H ∧ M (IntKind.wrap .i64 (i44 + 1)) H < M i44 H0)) (NilC p_f fun q54 => Ld (cellH H (Addr.add q54 1)) fun w56 => RtI .i64 w56 fun i56 => Fn 14
    [.int .i64 i56] H fun v H => RtT 2 v fun ts => RtP (ts.getD 0 undef) fun p57 => RtI .i64 (ts.getD 1 undef) fun i57 => Fn 55 [.map m29] H fun v H => RtL v fun
    a61 l61 c61 => Lp (fun (I_1 : Int → Heap → Prop) (_ : Int → Heap → Nat) => I_1 0 H) (fun I_1 M_1 => ∀ _ : Fr, ∀ i63 : Int, ∀ H0_1 : Heap, I_1 i63 H0_1 → At
    H0_1 fun H => BrB (decide ((i63 : Int) < ((l61 : Nat) : Int))) (Idx a61 l61 i63 1 fun e65 => Ld (cellH H e65) fun w66 => RtS w66 fun s66 => NilC p_f fun q68 =>
    Ld (cellH H (Addr.add q68 3)) fun w70 => RtM w70 fun m70 => Rv (Rd Try.prog (Instr.lookup 70 (.map m29) (.string s66) false) H) fun w73 => RtI .i64 w73 fun i73
    => Rv (Rd Try.prog (Instr.lookup 69 (.map m70) (.int .i64 i73) false) H) fun w74 => RtP w74 fun p74 => Fn 56 [.pointer p74, .func (.func 53) ⟨[]⟩ ⟨[.pointer
    (some ⟨nb, 0, none⟩)]⟩] H fun v H => RtL v fun a76 l76 c76 => NilC p57 fun q78 => Ld (cellH H (Addr.add q78 4)) fun w80 => RtI .i64 w80 fun i80 => NilC p57 fun
    q82 => StV H (Addr.add q82 4) 1 [.int .i64 (IntKind.wrap .i64 (i80 + 1))] fun H => NilC p57 fun q85 => Ld (cellH H (Addr.add q85 3)) fun w87 => RtM w87 fun m87
    => NilC p57 fun q89 => Ld (cellH H (Addr.add q89 4)) fun w91 => RtI .i64 w91 fun i91 => Smk Try.prog (Builtin.append_ #[22, 22] 22 ⟨[.slice none 0 0, .slice
    a76 l76 c76]⟩) H fun v H => RtL v fun a94 l94 c94 => Ck (cellH H (Addr.add q89 4) = some w91) (Ck (cellH H (Addr.add q85 3) = some w87) (New H (.cells ⟨[.slice
    a76 l76 c76, .slice a94 l94 c94, .slice none 0 0]⟩ 82) fun nb_2 H => Ck (cellH H (Addr.add q89 4) = some w91) (Ck (cellH H (Addr.add q85 3) = some w87) (SmUk
    Try.prog (Instr.mapUpdate 69 (.map m87) (.int .i64 i91) (.pointer (some ⟨nb_2, 0, none⟩))) H fun H => NilC p57 fun q98 => Ld (cellH H (Addr.add q98 5)) fun
    w100 => RtM w100 fun m100 => NilC p57 fun q103 => Ld (cellH H (Addr.add q103 6)) fun w105 => RtM w105 fun m105 => NilC p57 fun q108 => Ld (cellH H (Addr.add
    q108 4)) fun w110 => RtI .i64 w110 fun i110 => NilC p57 fun q112 => Ld (cellH H (Addr.add q112 4)) fun w114 => RtI .i64 w114 fun i114 => Smk Try.prog
    (Instr.mapEntry 70 (.map m100) (.string s66)) H fun v H => RtT 2 v fun ts_1 => RtI .i64 (ts_1.getD 0 undef) fun i115 => RtI .i64 (ts_1.getD 1 undef) fun s_t115
    => Ck (cellH H (Addr.add q108 4) = some w110) (SmUk Try.prog (Instr.entryStore 70 (.map m100) (.int .i64 s_t115) (.int .i64 i110)) H fun H => Smk Try.prog
    (Instr.mapEntry 70 (.map m105) (.string s66)) H fun v H => RtT 2 v fun ts_2 => RtI .i64 (ts_2.getD 0 undef) fun i117 => RtI .i64 (ts_2.getD 1 undef) fun s_t117
    => SmUk Try.prog (Instr.entryStore 70 (.map m105) (.int .i64 s_t117) (.int .i64 i114)) H fun H => I_1 (IntKind.wrap .i64 (i63 + 1)) H ∧ M_1 (IntKind.wrap .i64
    (i63 + 1)) H < M_1 i63 H0_1)))))) (Fn 57 [.pointer p57] H fun v H => Rt0 v (K (.tuple ⟨[.pointer p57, .int .i64 0]⟩) H)))))))))
def tb20 : Tab := { ord := [(5, [0, 1, 2, 3, 4, 5, 6, 7, 8, 9, 10, 14, 11, 12, 13]), (14, [0, 1, 2, 3, 4, 5, 6, 7, 8, 9, 10]), (16, [0, 1, 2, 3, 4, 5, 6, 7, 8, 9, 10, 11, 12, 13]), (17, [0, 1, 2, 3, 4, 5, 6, 7, 8, 9, 10, 11, 12, 13, 14, 15, 16, 17, 18, 19, 20, 21, 22, 23])], ent := [], lp := [(6, [(44, .one (.int .i64))]), (12, [(63, .one (.int .i64))])], jn := [] }
theorem F20_eq (p_f : Option Addr) (a_cuts : Option Addr) (l_cuts : Nat) (c_cuts : Nat) (H : Heap) (K : Value → Heap → Prop) : F20 p_f a_cuts l_cuts c_cuts H K = FnW Try.prog tb20 20 [.pointer p_f, .slice a_cuts l_cuts c_cuts] H K := by kernel_rfl
theorem F20_is : isFnB Try.prog 20 = true := by kernel_rfl
theorem F20_ok (p_f : Option Addr) (a_cuts : Option Addr) (l_cuts : Nat) (c_cuts : Nat) {H : Heap} {K : Value → Heap → Prop} (h : F20 p_f a_cuts l_cuts c_cuts H K) : Fn 20 [.pointer p_f, .slice a_cuts l_cuts c_cuts] H K :=
  FnH.of_W mixed F20_is (by kernel_rfl) (cast (F20_eq p_f a_cuts l_cuts c_cuts H K) h)

/- (*stook/simfs.FS).Read -/
def F21 (p_f : Option Addr) (s_name : ByteArray) (i_at : Int) (i_n : Int) (H : Heap) (K : Value → Heap → Prop) : Prop :=
  Fn 49 [.pointer p_f, .string s_name] H fun v H => RtT 2 v fun ts => RtP (ts.getD 0 undef) fun p15 => RtI .i64 (ts.getD 1 undef) fun i15 => BrB ((i15 : Int) != 0)
    (K (.tuple ⟨[.slice none 0 0, .int .i64 i15]⟩) H) (BrB (decide ((i_at : Int) < 0)) (K (.tuple ⟨[.slice none 0 0, .int .i64 2]⟩) H) (NilC p15 fun q26 => Ld
    (cellH H (Addr.add q26 1)) fun w28 => RtL w28 fun a28 l28 c28 => BrB (decide ((i_at : Int) > ((l28 : Nat) : Int))) (K (.tuple ⟨[.slice none 0 0, .int .i64 2]⟩)
    H) (BrB (decide ((i_n : Int) < 0)) (K (.tuple ⟨[.slice none 0 0, .int .i64 2]⟩) H) (NilC p15 fun q37 => Ld (cellH H (Addr.add q37 1)) fun w39 => RtL w39 fun
    a39 l39 c39 => NilC p15 fun q44 => Ld (cellH H (Addr.add q44 1)) fun w46 => RtL w46 fun a46 l46 c46 => Ck ((0 : Int) ≤ i_at ∧ (i_at : Int) ≤ IntKind.wrap .i64
    (i_at + (imin i_n (IntKind.wrap .i64 (((l46 : Nat) : Int) - i_at)))) ∧ (IntKind.wrap .i64 (i_at + (imin i_n (IntKind.wrap .i64 (((l46 : Nat) : Int) - i_at))))
    : Int) ≤ ((c39 : Nat) : Int) ∧ (((c39 : Nat) : Int) : Int) ≤ ((c39 : Nat) : Int)) (Smk Try.prog (Builtin.append_ #[22, 22] 22 ⟨[.slice none 0 0, .slice (slA
    a39 i_at ((c39 : Nat) : Int) 1) (slN i_at (IntKind.wrap .i64 (i_at + (imin i_n (IntKind.wrap .i64 (((l46 : Nat) : Int) - i_at)))))) (slN i_at ((c39 : Nat) :
    Int))]⟩) H fun v H => RtL v fun a53 l53 c53 => K (.tuple ⟨[.slice a53 l53 c53, .int .i64 0]⟩) H)))))
def tb21 : Tab := { ord := [(6, [0, 1, 2, 3, 4, 5, 6, 7, 8, 9, 10, 11, 12, 13, 14, 15, 16, 17, 18, 19])], ent := [], lp := [], jn := [] }
theorem F21_eq (p_f : Option Addr) (s_name : ByteArray) (i_at : Int) (i_n : Int) (H : Heap) (K : Value → Heap → Prop) : F21 p_f s_name i_at i_n H K = FnW Try.prog tb21 21 [.pointer p_f, .string s_name, .int .i64 i_at, .int .i64 i_n] H K := by kernel_rfl
theorem F21_is : isFnB Try.prog 21 = true := by kernel_rfl
theorem F21_ok (p_f : Option Addr) (s_name : ByteArray) (i_at : Int) (i_n : Int) {H : Heap} {K : Value → Heap → Prop} (h : F21 p_f s_name i_at i_n H K) : Fn 21 [.pointer p_f, .string s_name, .int .i64 i_at, .int .i64 i_n] H K :=
  FnH.of_W mixed F21_is (by kernel_rfl) (cast (F21_eq p_f s_name i_at i_n H K) h)

/- stook/stookref00.Same -/
def F22 (a_a : Option Addr) (l_a : Nat) (c_a : Nat) (a_b : Option Addr) (l_b : Nat) (c_b : Nat) (H : Heap) (K : Value → Heap → Prop) : Prop :=
  BrB ((((l_a : Nat) : Int) : Int) != ((l_b : Nat) : Int)) (K (.bool false) H) (Lp (fun (I : Int → Heap → Prop) (_ : Int → Heap → Nat) => I 0 H) (fun I M => ∀ _ :
    Fr, ∀ i_i : Int, ∀ H0 : Heap, I i_i H0 → At H0 fun H => BrB (decide ((i_i : Int) < ((l_a : Nat) : Int))) (Idx a_a l_a i_i 1 fun e19 => Ld (cellH H e19) fun w20
    => RtI .u8 w20 fun i20 => Idx a_b l_b i_i 1 fun e23 => Ld (cellH H e23) fun w24 => RtI .u8 w24 fun i24 => BrB ((i20 : Int) != i24) (K (.bool false) H) (I
    (IntKind.wrap .i64 (i_i + 1)) H ∧ M (IntKind.wrap .i64 (i_i + 1)) H < M i_i H0)) (K (.bool true) H)))
def tb22 : Tab := { ord := [(6, [0, 1, 2, 3, 4, 5, 6, 7, 8])], ent := [], lp := [(4, [(5, .one (.int .i64))])], jn := [] }
theorem F22_eq (a_a : Option Addr) (l_a : Nat) (c_a : Nat) (a_b : Option Addr) (l_b : Nat) (c_b : Nat) (H : Heap) (K : Value → Heap → Prop) : F22 a_a l_a c_a a_b l_b c_b H K = FnW Try.prog tb22 22 [.slice a_a l_a c_a, .slice a_b l_b c_b] H K := by kernel_rfl
theorem F22_is : isFnB Try.prog 22 = true := by kernel_rfl
theorem F22_ok (a_a : Option Addr) (l_a : Nat) (c_a : Nat) (a_b : Option Addr) (l_b : Nat) (c_b : Nat) {H : Heap} {K : Value → Heap → Prop} (h : F22 a_a l_a c_a a_b l_b c_b H K) : Fn 22 [.slice a_a l_a c_a, .slice a_b l_b c_b] H K :=
  FnH.of_W mixed F22_is (by kernel_rfl) (cast (F22_eq a_a l_a c_a a_b l_b c_b H K) h)

/- (*stook/simfs.FS).Write -/
def F23 (p_f : Option Addr) (s_name : ByteArray) (i_at : Int) (a_b : Option Addr) (l_b : Nat) (c_b : Nat) (H : Heap) (K : Value → Heap → Prop) : Prop :=
  Fn 49 [.pointer p_f, .string s_name] H fun v H => RtT 2 v fun ts => RtP (ts.getD 0 undef) fun p15 => RtI .i64 (ts.getD 1 undef) fun i15 => BrB ((i15 : Int) != 0)
    (K (.int .i64 i15) H) (BrB (decide ((i_at : Int) < 0)) (K (.int .i64 2) H) (NilC p15 fun q26 => Ld (cellH H (Addr.add q26 1)) fun w28 => RtL w28 fun a28 l28
    c28 => BrB (decide ((i_at : Int) > ((l28 : Nat) : Int))) (K (.int .i64 2) H) (NilC p15 fun q35 => Ld (cellH H (Addr.add q35 1)) fun w37 => RtL w37 fun a37 l37
    c37 => BrB (decide ((IntKind.wrap .i64 (((l_b : Nat) : Int) - (IntKind.wrap .i64 (((l37 : Nat) : Int) - i_at))) : Int) > 0)) (NilC p_f fun q47 => Ld (cellH H
    (Addr.add q47 1)) fun w49 => RtI .i64 w49 fun i49 => NilC p_f fun q51 => Ld (cellH H (Addr.add q51 2)) fun w53 => RtI .i64 w53 fun i53 => BrB (decide
    ((IntKind.wrap .i64 (((l_b : Nat) : Int) - (IntKind.wrap .i64 (((l37 : Nat) : Int) - i_at))) : Int) > (IntKind.wrap .i64 (i49 - i53)))) (K (.int .i64 9) H)
    (Smk Try.prog (Builtin.append_ #[22, 22] 22 ⟨[.slice none 0 0, .slice a_b l_b c_b]⟩) H fun v H => RtL v fun a61 l61 c61 => Fn 50 [.pointer p_f, .pointer p15,
    .agg ⟨[.bool false, .int .i64 i_at, .slice a61 l61 c61]⟩] H fun v H => RtI .i64 v fun i63 => K (.int .i64 i63) H)) (Smk Try.prog (Builtin.append_ #[22, 22] 22
    ⟨[.slice none 0 0, .slice a_b l_b c_b]⟩) H fun v H => RtL v fun a61_1 l61_1 c61_1 => Fn 50 [.pointer p_f, .pointer p15, .agg ⟨[.bool false, .int .i64 i_at,
    .slice a61_1 l61_1 c61_1]⟩] H fun v H => RtI .i64 v fun i63_1 => K (.int .i64 i63_1) H))))
def tb23 : Tab := { ord := [(7, [0, 1, 2, 3, 4, 5, 6, 7, 8, 9, 10, 11, 12, 13, 14])], ent := [], lp := [], jn := [] }
theorem F23_eq (p_f : Option Addr) (s_name : ByteArray) (i_at : Int) (a_b : Option Addr) (l_b : Nat) (c_b : Nat) (H : Heap) (K : Value → Heap → Prop) : F23 p_f s_name i_at a_b l_b c_b H K = FnW Try.prog tb23 23 [.pointer p_f, .string s_name, .int .i64 i_at, .slice a_b l_b c_b] H K := by kernel_rfl
theorem F23_is : isFnB Try.prog 23 = true := by kernel_rfl
theorem F23_ok (p_f : Option Addr) (s_name : ByteArray) (i_at : Int) (a_b : Option Addr) (l_b : Nat) (c_b : Nat) {H : Heap} {K : Value → Heap → Prop} (h : F23 p_f s_name i_at a_b l_b c_b H K) : Fn 23 [.pointer p_f, .string s_name, .int .i64 i_at, .slice a_b l_b c_b] H K :=
  FnH.of_W mixed F23_is (by kernel_rfl) (cast (F23_eq p_f s_name i_at a_b l_b c_b H K) h)

/- stook/stookref00.Wide -/
def F24 (a_b : Option Addr) (l_b : Nat) (c_b : Nat) (H : Heap) (K : Value → Heap → Prop) : Prop :=
  Smk Try.prog (Instr.makeSlice 22 (.int .i64 (IntKind.wrap .i64 (((l_b : Nat) : Int) + 3))) (.int .i64 (IntKind.wrap .i64 (((l_b : Nat) : Int) + 3)))) H fun v H
    => RtL v fun a9 l9 c9 => Smk Try.prog (Builtin.copy_ #[22, 22] 3 ⟨[.slice a9 l9 c9, .slice a_b l_b c_b]⟩) H fun v H => RtI .i64 v fun i12 => Lp (fun (I : Int →
    Heap → Prop) (_ : Int → Heap → Nat) => I i12 H) (fun I M => ∀ _ : Fr, ∀ i_i : Int, ∀ H0 : Heap, I i_i H0 → At H0 fun H => BrB (decide ((i_i : Int) < ((l9 :
    Nat) : Int))) (Idx a9 l9 i_i 1 fun e22 => StV H e22 1 [.int .u8 7] fun H => I (IntKind.wrap .i64 (i_i + 1)) H ∧ M (IntKind.wrap .i64 (i_i + 1)) H < M i_i H0)
    (Ck ((0 : Int) ≤ 0 ∧ (0 : Int) ≤ i12 ∧ (i12 : Int) ≤ ((c9 : Nat) : Int) ∧ (((c9 : Nat) : Int) : Int) ≤ ((c9 : Nat) : Int)) (K (.slice (slA a9 0 ((c9 : Nat) :
    Int) 1) (slN 0 i12) (slN 0 ((c9 : Nat) : Int))) H)))
def tb24 : Tab := { ord := [], ent := [], lp := [(4, [(5, .one (.int .i64))])], jn := [] }
theorem F24_eq (a_b : Option Addr) (l_b : Nat) (c_b : Nat) (H : Heap) (K : Value → Heap → Prop) : F24 a_b l_b c_b H K = FnW Try.prog tb24 24 [.slice a_b l_b c_b] H K := by kernel_rfl
theorem F24_is : isFnB Try.prog 24 = true := by kernel_rfl
theorem F24_ok (a_b : Option Addr) (l_b : Nat) (c_b : Nat) {H : Heap} {K : Value → Heap → Prop} (h : F24 a_b l_b c_b H K) : Fn 24 [.slice a_b l_b c_b] H K :=
  FnH.of_W mixed F24_is (by kernel_rfl) (cast (F24_eq a_b l_b c_b H K) h)

/- stook/stookref00.Left -/
def F25 (a_w : Option Addr) (l_w : Nat) (c_w : Nat) (a_b : Option Addr) (l_b : Nat) (c_b : Nat) (H : Heap) (K : Value → Heap → Prop) : Prop :=
  Fn 22 [.slice a_w l_w c_w, .slice a_b l_b c_b] H fun v H => RtB v fun b8 => BrB (!b8) (K (.bool false) H) (BrB (decide ((((c_w : Nat) : Int) : Int) <
    (IntKind.wrap .i64 (((l_b : Nat) : Int) + 3)))) (K (.bool false) H) (Ck ((0 : Int) ≤ 0 ∧ (0 : Int) ≤ IntKind.wrap .i64 (((l_b : Nat) : Int) + 3) ∧
    (IntKind.wrap .i64 (((l_b : Nat) : Int) + 3) : Int) ≤ ((c_w : Nat) : Int) ∧ (((c_w : Nat) : Int) : Int) ≤ ((c_w : Nat) : Int)) (Idx (slA a_w 0 ((c_w : Nat) :
    Int) 1) (slN 0 (IntKind.wrap .i64 (((l_b : Nat) : Int) + 3))) ((l_b : Nat) : Int) 1 fun e26 => Ld (cellH H e26) fun w27 => RtI .u8 w27 fun i27 => BrB ((i27 :
    Int) == 7) (Idx (slA a_w 0 ((c_w : Nat) : Int) 1) (slN 0 (IntKind.wrap .i64 (((l_b : Nat) : Int) + 3))) (IntKind.wrap .i64 (((l_b : Nat) : Int) + 1)) 1 fun e34
    => Ld (cellH H e34) fun w35 => RtI .u8 w35 fun i35 => BrB ((i35 : Int) == 7) (Idx (slA a_w 0 ((c_w : Nat) : Int) 1) (slN 0 (IntKind.wrap .i64 (((l_b : Nat) :
    Int) + 3))) (IntKind.wrap .i64 (((l_b : Nat) : Int) + 2)) 1 fun e43 => Ld (cellH H e43) fun w44 => RtI .u8 w44 fun i44 => K (.bool ((i44 : Int) == 7)) H) (K
    (.bool false) H)) (K (.bool false) H))))
def tb25 : Tab := { ord := [], ent := [], lp := [], jn := [] }
theorem F25_eq (a_w : Option Addr) (l_w : Nat) (c_w : Nat) (a_b : Option Addr) (l_b : Nat) (c_b : Nat) (H : Heap) (K : Value → Heap → Prop) : F25 a_w l_w c_w a_b l_b c_b H K = FnW Try.prog tb25 25 [.slice a_w l_w c_w, .slice a_b l_b c_b] H K := by kernel_rfl
theorem F25_is : isFnB Try.prog 25 = true := by kernel_rfl
theorem F25_ok (a_w : Option Addr) (l_w : Nat) (c_w : Nat) (a_b : Option Addr) (l_b : Nat) (c_b : Nat) {H : Heap} {K : Value → Heap → Prop} (h : F25 a_w l_w c_w a_b l_b c_b H K) : Fn 25 [.slice a_w l_w c_w, .slice a_b l_b c_b] H K :=
  FnH.of_W mixed F25_is (by kernel_rfl) (cast (F25_eq a_w l_w c_w a_b l_b c_b H K) h)

/- stook/stookref00.Spoil -/
def F26 (a_b : Option Addr) (l_b : Nat) (c_b : Nat) (i_by : Int) (H : Heap) (K : Value → Heap → Prop) : Prop :=
  Ck ((0 : Int) ≤ 0 ∧ (0 : Int) ≤ ((c_b : Nat) : Int) ∧ (((c_b : Nat) : Int) : Int) ≤ ((c_b : Nat) : Int) ∧ (((c_b : Nat) : Int) : Int) ≤ ((c_b : Nat) : Int)) (Lp
    (fun (I : Int → Heap → Prop) (_ : Int → Heap → Nat) => I 0 H) (fun I M => ∀ _ : Fr, ∀ i_i : Int, ∀ H0 : Heap, I i_i H0 → At H0 fun H => BrB (decide ((i_i :
    Int) < ((slN 0 ((c_b : Nat) : Int) : Nat) : Int))) (Idx (slA a_b 0 ((c_b : Nat) : Int) 1) (slN 0 ((c_b : Nat) : Int)) i_i 1 fun e19 => Ld (cellH H e19) fun w20
    => RtI .u8 w20 fun i20 => Rv (Rd Try.prog (eqGuard .xor 5 (.tmp 20) (.tmp 21) (.int .u8 i20) (.int .u8 i_by) >>= fun _ => binOp .xor 5 (.int .u8 i20) (.int .u8
    i_by)) H) fun w22 => RtI .u8 w22 fun i22 => Idx (slA a_b 0 ((c_b : Nat) : Int) 1) (slN 0 ((c_b : Nat) : Int)) i_i 1 fun e23 => StV H e23 1 [.int .u8 i22] fun H
    => I (IntKind.wrap .i64 (i_i + 1)) H ∧ M (IntKind.wrap .i64 (i_i + 1)) H < M i_i H0) (K (.tuple ⟨[]⟩) H)))
def tb26 : Tab := { ord := [], ent := [], lp := [(2, [(4, .one (.int .i64))])], jn := [] }
theorem F26_eq (a_b : Option Addr) (l_b : Nat) (c_b : Nat) (i_by : Int) (H : Heap) (K : Value → Heap → Prop) : F26 a_b l_b c_b i_by H K = FnW Try.prog tb26 26 [.slice a_b l_b c_b, .int .u8 i_by] H K := by kernel_rfl
theorem F26_is : isFnB Try.prog 26 = true := by kernel_rfl
theorem F26_ok (a_b : Option Addr) (l_b : Nat) (c_b : Nat) (i_by : Int) {H : Heap} {K : Value → Heap → Prop} (h : F26 a_b l_b c_b i_by H K) : Fn 26 [.slice a_b l_b c_b, .int .u8 i_by] H K :=
  FnH.of_W mixed F26_is (by kernel_rfl) (cast (F26_eq a_b l_b c_b i_by H K) h)

/- stook/stookref00.Copy -/
def F27 (a_b : Option Addr) (l_b : Nat) (c_b : Nat) (H : Heap) (K : Value → Heap → Prop) : Prop :=
  Smk Try.prog (Builtin.append_ #[22, 22] 22 ⟨[.slice none 0 0, .slice a_b l_b c_b]⟩) H fun v H => RtL v fun a6 l6 c6 => K (.slice a6 l6 c6) H
def tb27 : Tab := { ord := [], ent := [], lp := [], jn := [] }
theorem F27_eq (a_b : Option Addr) (l_b : Nat) (c_b : Nat) (H : Heap) (K : Value → Heap → Prop) : F27 a_b l_b c_b H K = FnW Try.prog tb27 27 [.slice a_b l_b c_b] H K := by kernel_rfl
theorem F27_is : isFnB Try.prog 27 = true := by kernel_rfl
theorem F27_ok (a_b : Option Addr) (l_b : Nat) (c_b : Nat) {H : Heap} {K : Value → Heap → Prop} (h : F27 a_b l_b c_b H K) : Fn 27 [.slice a_b l_b c_b] H K :=
  FnH.of_W mixed F27_is (by kernel_rfl) (cast (F27_eq a_b l_b c_b H K) h)

/- (*stook/simfs.FS).Names -/
def F28 (p_f : Option Addr) (H : Heap) (K : Value → Heap → Prop) : Prop :=
  Fn 46 [.pointer p_f] H fun v H => RtI .i64 v fun i4 => BrB ((i4 : Int) != 0) (K (.slice none 0 0) H) (NilC p_f fun q7 => Ld (cellH H (Addr.add q7 6)) fun w9 =>
    RtM w9 fun m9 => Fn 55 [.map m9] H fun v H => RtL v fun a10 l10 c10 => K (.slice a10 l10 c10) H)
def tb28 : Tab := { ord := [], ent := [], lp := [], jn := [] }
theorem F28_eq (p_f : Option Addr) (H : Heap) (K : Value → Heap → Prop) : F28 p_f H K = FnW Try.prog tb28 28 [.pointer p_f] H K := by kernel_rfl
theorem F28_is : isFnB Try.prog 28 = true := by kernel_rfl
theorem F28_ok (p_f : Option Addr) {H : Heap} {K : Value → Heap → Prop} (h : F28 p_f H K) : Fn 28 [.pointer p_f] H K :=
  FnH.of_W mixed F28_is (by kernel_rfl) (cast (F28_eq p_f H K) h)

/- stook/stookref00.Texts -/
def F29 (a_a : Option Addr) (l_a : Nat) (c_a : Nat) (a_b : Option Addr) (l_b : Nat) (c_b : Nat) (H : Heap) (K : Value → Heap → Prop) : Prop :=
  BrB ((((l_a : Nat) : Int) : Int) != ((l_b : Nat) : Int)) (K (.bool false) H) (Lp (fun (I : Int → Heap → Prop) (_ : Int → Heap → Nat) => I 0 H) (fun I M => ∀ _ :
    Fr, ∀ i_i : Int, ∀ H0 : Heap, I i_i H0 → At H0 fun H => BrB (decide ((i_i : Int) < ((l_a : Nat) : Int))) (Idx a_a l_a i_i 1 fun e19 => Ld (cellH H e19) fun w20
    => RtS w20 fun s20 => Idx a_b l_b i_i 1 fun e23 => Ld (cellH H e23) fun w24 => RtS w24 fun s24 => BrB (!(s20.toList == s24.toList)) (K (.bool false) H) (I
    (IntKind.wrap .i64 (i_i + 1)) H ∧ M (IntKind.wrap .i64 (i_i + 1)) H < M i_i H0)) (K (.bool true) H)))
def tb29 : Tab := { ord := [(6, [0, 1, 2, 3, 4, 5, 6, 7, 8])], ent := [], lp := [(4, [(5, .one (.int .i64))])], jn := [] }
theorem F29_eq (a_a : Option Addr) (l_a : Nat) (c_a : Nat) (a_b : Option Addr) (l_b : Nat) (c_b : Nat) (H : Heap) (K : Value → Heap → Prop) : F29 a_a l_a c_a a_b l_b c_b H K = FnW Try.prog tb29 29 [.slice a_a l_a c_a, .slice a_b l_b c_b] H K := by kernel_rfl
theorem F29_is : isFnB Try.prog 29 = true := by kernel_rfl
theorem F29_ok (a_a : Option Addr) (l_a : Nat) (c_a : Nat) (a_b : Option Addr) (l_b : Nat) (c_b : Nat) {H : Heap} {K : Value → Heap → Prop} (h : F29 a_a l_a c_a a_b l_b c_b H K) : Fn 29 [.slice a_a l_a c_a, .slice a_b l_b c_b] H K :=
  FnH.of_W mixed F29_is (by kernel_rfl) (cast (F29_eq a_a l_a c_a a_b l_b c_b H K) h)

/- stook/stooklaw14.great -/
def F30 (a_l : Option Addr) (l_l : Nat) (c_l : Nat) (H : Heap) (K : Value → Heap → Prop) : Prop :=
  Lp (fun (I : Int → Int → Heap → Prop) (_ : Int → Int → Heap → Nat) => I 0 0 H) (fun I M => ∀ _ : Fr, ∀ i_n : Int, ∀ i_i : Int, ∀ H0 : Heap, I i_n i_i H0 → At H0
    fun H => BrB (decide ((i_i : Int) < ((l_l : Nat) : Int))) (BrB (decide ((i_n : Int) ≤ 20000)) (Idx a_l l_l i_i 5 fun e18 => Ld (cellH H (Addr.add e18 4)) fun
    w20 => RtL w20 fun a20 l20 c20 => I (IntKind.wrap .i64 (i_n + (imin ((l20 : Nat) : Int) 20001))) (IntKind.wrap .i64 (i_i + 1)) H ∧ M (IntKind.wrap .i64 (i_n +
    (imin ((l20 : Nat) : Int) 20001))) (IntKind.wrap .i64 (i_i + 1)) H < M i_n i_i H0) (BrB (decide ((((l_l : Nat) : Int) : Int) > 120)) (K (.bool true) H) (K
    (.bool (decide ((i_n : Int) > 20000))) H))) (BrB (decide ((((l_l : Nat) : Int) : Int) > 120)) (K (.bool true) H) (K (.bool (decide ((i_n : Int) > 20000))) H)))
def tb30 : Tab := { ord := [], ent := [], lp := [(3, [(3, .one (.int .i64)), (4, .one (.int .i64))])], jn := [] }
theorem F30_eq (a_l : Option Addr) (l_l : Nat) (c_l : Nat) (H : Heap) (K : Value → Heap → Prop) : F30 a_l l_l c_l H K = FnW Try.prog tb30 30 [.slice a_l l_l c_l] H K := by kernel_rfl
theorem F30_is : isFnB Try.prog 30 = true := by kernel_rfl
theorem F30_ok (a_l : Option Addr) (l_l : Nat) (c_l : Nat) {H : Heap} {K : Value → Heap → Prop} (h : F30 a_l l_l c_l H K) : Fn 30 [.slice a_l l_l c_l] H K :=
  FnH.of_W mixed F30_is (by kernel_rfl) (cast (F30_eq a_l l_l c_l H K) h)

/- stook/stooklaw14.do -/
def F31 (p_f : Option Addr) (i_o : Int) (s_o : ByteArray) (s_o_1 : ByteArray) (i_o_1 : Int) (a_o : Option Addr) (l_o : Nat) (c_o : Nat) (H : Heap) (K : Value → Heap → Prop) : Prop :=
  New H (.cells ⟨[.int .u8 i_o, .string s_o, .string s_o_1, .int .i64 i_o_1, .slice a_o l_o c_o]⟩ 50) fun nb H => Ld (cellH H (Addr.add ⟨nb, 0, none⟩ 0)) fun w6 =>
    RtI .u8 w6 fun i6 => BrB ((i6 : Int) == 0) (Ld (cellH H (Addr.add ⟨nb, 0, none⟩ 1)) fun w11 => RtS w11 fun s11 => Fn 15 [.pointer p_f, .string s11] H fun v H
    => RtI .i64 v fun i12 => K (.int .i64 i12) H) (BrB ((i6 : Int) == 1) (Ld (cellH H (Addr.add ⟨nb, 0, none⟩ 1)) fun w17 => RtS w17 fun s17 => Ld (cellH H
    (Addr.add ⟨nb, 0, none⟩ 4)) fun w19 => RtL w19 fun a19 l19 c19 => Fn 16 [.pointer p_f, .string s17, .slice a19 l19 c19] H fun v H => RtI .i64 v fun i20 => K
    (.int .i64 i20) H) (BrB ((i6 : Int) == 2) (Ld (cellH H (Addr.add ⟨nb, 0, none⟩ 1)) fun w25 => RtS w25 fun s25 => Ld (cellH H (Addr.add ⟨nb, 0, none⟩ 3)) fun
    w27 => RtI .i64 w27 fun i27 => Ld (cellH H (Addr.add ⟨nb, 0, none⟩ 4)) fun w29 => RtL w29 fun a29 l29 c29 => Fn 23 [.pointer p_f, .string s25, .int .i64 i27,
    .slice a29 l29 c29] H fun v H => RtI .i64 v fun i30 => K (.int .i64 i30) H) (BrB ((i6 : Int) == 3) (Ld (cellH H (Addr.add ⟨nb, 0, none⟩ 1)) fun w35 => RtS w35
    fun s35 => Ld (cellH H (Addr.add ⟨nb, 0, none⟩ 3)) fun w37 => RtI .i64 w37 fun i37 => Fn 58 [.pointer p_f, .string s35, .int .i64 i37] H fun v H => RtI .i64 v
    fun i38 => K (.int .i64 i38) H) (BrB ((i6 : Int) == 4) (Ld (cellH H (Addr.add ⟨nb, 0, none⟩ 1)) fun w43 => RtS w43 fun s43 => Ld (cellH H (Addr.add ⟨nb, 0,
    none⟩ 2)) fun w45 => RtS w45 fun s45 => Fn 19 [.pointer p_f, .string s43, .string s45] H fun v H => RtI .i64 v fun i46 => K (.int .i64 i46) H) (BrB ((i6 : Int)
    == 5) (Ld (cellH H (Addr.add ⟨nb, 0, none⟩ 1)) fun w51 => RtS w51 fun s51 => Fn 59 [.pointer p_f, .string s51] H fun v H => RtI .i64 v fun i52 => K (.int .i64
    i52) H) (BrB ((i6 : Int) == 6) (Ld (cellH H (Addr.add ⟨nb, 0, none⟩ 1)) fun w57 => RtS w57 fun s57 => Fn 17 [.pointer p_f, .string s57] H fun v H => RtI .i64 v
    fun i58 => K (.int .i64 i58) H) (BrB ((i6 : Int) == 7) (Fn 18 [.pointer p_f] H fun v H => RtI .i64 v fun i62 => K (.int .i64 i62) H) (BrB ((i6 : Int) == 8) (Ld
    (cellH H (Addr.add ⟨nb, 0, none⟩ 3)) fun w67 => RtI .i64 w67 fun i67 => Fn 35 [.pointer p_f, .int .i64 i67] H fun v H => RtI .i64 v fun i68 => K (.int .i64
    i68) H) (K (.int .i64 0) H)))))))))
def tb31 : Tab := { ord := [], ent := [], lp := [], jn := [] }
theorem F31_eq (p_f : Option Addr) (i_o : Int) (s_o : ByteArray) (s_o_1 : ByteArray) (i_o_1 : Int) (a_o : Option Addr) (l_o : Nat) (c_o : Nat) (H : Heap) (K : Value → Heap → Prop) : F31 p_f i_o s_o s_o_1 i_o_1 a_o l_o c_o H K = FnW Try.prog tb31 31 [.pointer p_f, .agg ⟨[.int .u8 i_o, .string s_o, .string s_o_1, .int .i64 i_o_1, .slice a_o l_o c_o]⟩] H K := by kernel_rfl
theorem F31_is : isFnB Try.prog 31 = true := by kernel_rfl
theorem F31_ok (p_f : Option Addr) (i_o : Int) (s_o : ByteArray) (s_o_1 : ByteArray) (i_o_1 : Int) (a_o : Option Addr) (l_o : Nat) (c_o : Nat) {H : Heap} {K : Value → Heap → Prop} (h : F31 p_f i_o s_o s_o_1 i_o_1 a_o l_o c_o H K) : Fn 31 [.pointer p_f, .agg ⟨[.int .u8 i_o, .string s_o, .string s_o_1, .int .i64 i_o_1, .slice a_o l_o c_o]⟩] H K :=
  FnH.of_W mixed F31_is (by kernel_rfl) (cast (F31_eq p_f i_o s_o s_o_1 i_o_1 a_o l_o c_o H K) h)

/- (*stook/simfs.FS).Acts -/
def F32 (p_f : Option Addr) (H : Heap) (K : Value → Heap → Prop) : Prop :=
  BrB (Option.isNone p_f) (K (.int .i64 0) H) (NilC p_f fun q6 => Ld (cellH H (Addr.add q6 8)) fun w8 => RtI .i64 w8 fun i8 => K (.int .i64 i8) H)
def tb32 : Tab := { ord := [], ent := [], lp := [], jn := [] }
theorem F32_eq (p_f : Option Addr) (H : Heap) (K : Value → Heap → Prop) : F32 p_f H K = FnW Try.prog tb32 32 [.pointer p_f] H K := by kernel_rfl
theorem F32_is : isFnB Try.prog 32 = true := by kernel_rfl
theorem F32_ok (p_f : Option Addr) {H : Heap} {K : Value → Heap → Prop} (h : F32 p_f H K) : Fn 32 [.pointer p_f] H K :=
  FnH.of_W mixed F32_is (by kernel_rfl) (cast (F32_eq p_f H K) h)

/- (*stook/simfs.FS).Used -/
def F33 (p_f : Option Addr) (H : Heap) (K : Value → Heap → Prop) : Prop :=
  Fn 46 [.pointer p_f] H fun v H => RtI .i64 v fun i4 => BrB ((i4 : Int) != 0) (K (.int .i64 0) H) (NilC p_f fun q7 => Ld (cellH H (Addr.add q7 2)) fun w9 => RtI
    .i64 w9 fun i9 => K (.int .i64 i9) H)
def tb33 : Tab := { ord := [], ent := [], lp := [], jn := [] }
theorem F33_eq (p_f : Option Addr) (H : Heap) (K : Value → Heap → Prop) : F33 p_f H K = FnW Try.prog tb33 33 [.pointer p_f] H K := by kernel_rfl
theorem F33_is : isFnB Try.prog 33 = true := by kernel_rfl
theorem F33_ok (p_f : Option Addr) {H : Heap} {K : Value → Heap → Prop} (h : F33 p_f H K) : Fn 33 [.pointer p_f] H K :=
  FnH.of_W mixed F33_is (by kernel_rfl) (cast (F33_eq p_f H K) h)

/- (*stook/simfs.FS).Dead -/
def F34 (p_f : Option Addr) (H : Heap) (K : Value → Heap → Prop) : Prop :=
  BrB (!(Option.isNone p_f)) (NilC p_f fun q7 => Ld (cellH H (Addr.add q7 10)) fun w9 => RtB w9 fun b9 => K (.bool b9) H) (K (.bool false) H)
def tb34 : Tab := { ord := [], ent := [], lp := [], jn := [] }
theorem F34_eq (p_f : Option Addr) (H : Heap) (K : Value → Heap → Prop) : F34 p_f H K = FnW Try.prog tb34 34 [.pointer p_f] H K := by kernel_rfl
theorem F34_is : isFnB Try.prog 34 = true := by kernel_rfl
theorem F34_ok (p_f : Option Addr) {H : Heap} {K : Value → Heap → Prop} (h : F34 p_f H K) : Fn 34 [.pointer p_f] H K :=
  FnH.of_W mixed F34_is (by kernel_rfl) (cast (F34_eq p_f H K) h)

/- (*stook/simfs.FS).Arm -/
def F35 (p_f : Option Addr) (i_n : Int) (H : Heap) (K : Value → Heap → Prop) : Prop :=
  Fn 46 [.pointer p_f] H fun v H => RtI .i64 v fun i7 => BrB ((i7 : Int) != 0) (K (.int .i64 i7) H) (BrB (decide ((i_n : Int) < 0)) (K (.int .i64 2) H) (NilC p_f
    fun q15 => StV H (Addr.add q15 9) 1 [.int .i64 i_n] fun H => K (.int .i64 0) H))
def tb35 : Tab := { ord := [], ent := [], lp := [], jn := [] }
theorem F35_eq (p_f : Option Addr) (i_n : Int) (H : Heap) (K : Value → Heap → Prop) : F35 p_f i_n H K = FnW Try.prog tb35 35 [.pointer p_f, .int .i64 i_n] H K := by kernel_rfl
theorem F35_is : isFnB Try.prog 35 = true := by kernel_rfl
theorem F35_ok (p_f : Option Addr) (i_n : Int) {H : Heap} {K : Value → Heap → Prop} (h : F35 p_f i_n H K) : Fn 35 [.pointer p_f, .int .i64 i_n] H K :=
  FnH.of_W mixed F35_is (by kernel_rfl) (cast (F35_eq p_f i_n H K) h)

/- (*stook/simfs.FS).Room -/
def F36 (p_f : Option Addr) (H : Heap) (K : Value → Heap → Prop) : Prop :=
  Fn 46 [.pointer p_f] H fun v H => RtI .i64 v fun i4 => BrB ((i4 : Int) != 0) (K (.int .i64 0) H) (NilC p_f fun q7 => Ld (cellH H (Addr.add q7 1)) fun w9 => RtI
    .i64 w9 fun i9 => K (.int .i64 i9) H)
def tb36 : Tab := { ord := [], ent := [], lp := [], jn := [] }
theorem F36_eq (p_f : Option Addr) (H : Heap) (K : Value → Heap → Prop) : F36 p_f H K = FnW Try.prog tb36 36 [.pointer p_f] H K := by kernel_rfl
theorem F36_is : isFnB Try.prog 36 = true := by kernel_rfl
theorem F36_ok (p_f : Option Addr) {H : Heap} {K : Value → Heap → Prop} (h : F36 p_f H K) : Fn 36 [.pointer p_f] H K :=
  FnH.of_W mixed F36_is (by kernel_rfl) (cast (F36_eq p_f H K) h)

/- stook/stookref14.New -/
def F37 (i_room : Int) (H : Heap) (K : Value → Heap → Prop) : Prop :=
  BrB (decide ((i_room : Int) < 0)) (K (.tuple ⟨[.pointer none, .int .i64 2]⟩) H) (BrB (decide ((i_room : Int) > 1048576)) (K (.tuple ⟨[.pointer none, .int .i64
    2]⟩) H) (New H (.cells ⟨[.int .i64 i_room, .slice none 0 0, .slice none 0 0, .slice none 0 0, .slice none 0 0, .int .i64 0, .int .i64 0, .bool false]⟩ 102) fun
    nb H => K (.tuple ⟨[.pointer (some ⟨nb, 0, none⟩), .int .i64 0]⟩) H))
def tb37 : Tab := { ord := [], ent := [], lp := [], jn := [] }
theorem F37_eq (i_room : Int) (H : Heap) (K : Value → Heap → Prop) : F37 i_room H K = FnW Try.prog tb37 37 [.int .i64 i_room] H K := by kernel_rfl
theorem F37_is : isFnB Try.prog 37 = true := by kernel_rfl
theorem F37_ok (i_room : Int) {H : Heap} {K : Value → Heap → Prop} (h : F37 i_room H K) : Fn 37 [.int .i64 i_room] H K :=
  FnH.of_W mixed F37_is (by kernel_rfl) (cast (F37_eq i_room H K) h)

/- stook/stooklaw14.did -/
def F38 (p_f : Option Addr) (i_o : Int) (s_o : ByteArray) (s_o_1 : ByteArray) (i_o_1 : Int) (a_o : Option Addr) (l_o : Nat) (c_o : Nat) (H : Heap) (K : Value → Heap → Prop) : Prop :=
  New H (.cells ⟨[.int .u8 i_o, .string s_o, .string s_o_1, .int .i64 i_o_1, .slice a_o l_o c_o]⟩ 50) fun nb H => Ld (cellH H (Addr.add ⟨nb, 0, none⟩ 0)) fun w6 =>
    RtI .u8 w6 fun i6 => BrB ((i6 : Int) == 0) (Ld (cellH H (Addr.add ⟨nb, 0, none⟩ 1)) fun w11 => RtS w11 fun s11 => Fn 60 [.pointer p_f, .string s11] H fun v H
    => RtI .i64 v fun i12 => K (.int .i64 i12) H) (BrB ((i6 : Int) == 1) (Ld (cellH H (Addr.add ⟨nb, 0, none⟩ 1)) fun w17 => RtS w17 fun s17 => Ld (cellH H
    (Addr.add ⟨nb, 0, none⟩ 4)) fun w19 => RtL w19 fun a19 l19 c19 => Fn 61 [.pointer p_f, .string s17, .slice a19 l19 c19] H fun v H => RtI .i64 v fun i20 => K
    (.int .i64 i20) H) (BrB ((i6 : Int) == 2) (Ld (cellH H (Addr.add ⟨nb, 0, none⟩ 1)) fun w25 => RtS w25 fun s25 => Ld (cellH H (Addr.add ⟨nb, 0, none⟩ 3)) fun
    w27 => RtI .i64 w27 fun i27 => Ld (cellH H (Addr.add ⟨nb, 0, none⟩ 4)) fun w29 => RtL w29 fun a29 l29 c29 => Fn 62 [.pointer p_f, .string s25, .int .i64 i27,
    .slice a29 l29 c29] H fun v H => RtI .i64 v fun i30 => K (.int .i64 i30) H) (BrB ((i6 : Int) == 3) (Ld (cellH H (Addr.add ⟨nb, 0, none⟩ 1)) fun w35 => RtS w35
    fun s35 => Ld (cellH H (Addr.add ⟨nb, 0, none⟩ 3)) fun w37 => RtI .i64 w37 fun i37 => Fn 63 [.pointer p_f, .string s35, .int .i64 i37] H fun v H => RtI .i64 v
    fun i38 => K (.int .i64 i38) H) (BrB ((i6 : Int) == 4) (Ld (cellH H (Addr.add ⟨nb, 0, none⟩ 1)) fun w43 => RtS w43 fun s43 => Ld (cellH H (Addr.add ⟨nb, 0,
    none⟩ 2)) fun w45 => RtS w45 fun s45 => Fn 64 [.pointer p_f, .string s43, .string s45] H fun v H => RtI .i64 v fun i46 => K (.int .i64 i46) H) (BrB ((i6 : Int)
    == 5) (Ld (cellH H (Addr.add ⟨nb, 0, none⟩ 1)) fun w51 => RtS w51 fun s51 => Fn 65 [.pointer p_f, .string s51] H fun v H => RtI .i64 v fun i52 => K (.int .i64
    i52) H) (BrB ((i6 : Int) == 6) (Ld (cellH H (Addr.add ⟨nb, 0, none⟩ 1)) fun w57 => RtS w57 fun s57 => Fn 66 [.pointer p_f, .string s57] H fun v H => RtI .i64 v
    fun i58 => K (.int .i64 i58) H) (BrB ((i6 : Int) == 7) (Fn 67 [.pointer p_f] H fun v H => RtI .i64 v fun i62 => K (.int .i64 i62) H) (BrB ((i6 : Int) == 8) (Ld
    (cellH H (Addr.add ⟨nb, 0, none⟩ 3)) fun w67 => RtI .i64 w67 fun i67 => Fn 68 [.pointer p_f, .int .i64 i67] H fun v H => RtI .i64 v fun i68 => K (.int .i64
    i68) H) (K (.int .i64 0) H)))))))))
def tb38 : Tab := { ord := [], ent := [], lp := [], jn := [] }
theorem F38_eq (p_f : Option Addr) (i_o : Int) (s_o : ByteArray) (s_o_1 : ByteArray) (i_o_1 : Int) (a_o : Option Addr) (l_o : Nat) (c_o : Nat) (H : Heap) (K : Value → Heap → Prop) : F38 p_f i_o s_o s_o_1 i_o_1 a_o l_o c_o H K = FnW Try.prog tb38 38 [.pointer p_f, .agg ⟨[.int .u8 i_o, .string s_o, .string s_o_1, .int .i64 i_o_1, .slice a_o l_o c_o]⟩] H K := by kernel_rfl
theorem F38_is : isFnB Try.prog 38 = true := by kernel_rfl
theorem F38_ok (p_f : Option Addr) (i_o : Int) (s_o : ByteArray) (s_o_1 : ByteArray) (i_o_1 : Int) (a_o : Option Addr) (l_o : Nat) (c_o : Nat) {H : Heap} {K : Value → Heap → Prop} (h : F38 p_f i_o s_o s_o_1 i_o_1 a_o l_o c_o H K) : Fn 38 [.pointer p_f, .agg ⟨[.int .u8 i_o, .string s_o, .string s_o_1, .int .i64 i_o_1, .slice a_o l_o c_o]⟩] H K :=
  FnH.of_W mixed F38_is (by kernel_rfl) (cast (F38_eq p_f i_o s_o s_o_1 i_o_1 a_o l_o c_o H K) h)

/- stook/stooklaw14.alike -/
def F39 (p_f : Option Addr) (p_g : Option Addr) (i_o : Int) (s_o : ByteArray) (s_o_1 : ByteArray) (i_o_1 : Int) (a_o : Option Addr) (l_o : Nat) (c_o : Nat) (H : Heap) (K : Value → Heap → Prop) : Prop :=
  New H (.cells ⟨[.int .u8 i_o, .string s_o, .string s_o_1, .int .i64 i_o_1, .slice a_o l_o c_o]⟩ 50) fun nb H => Fn 69 [.pointer p_g] H fun v H => RtL v fun a17
    l17 c17 => Fn 28 [.pointer p_f] H fun v H => RtL v fun a19 l19 c19 => Fn 29 [.slice a19 l19 c19, .slice a17 l17 c17] H fun v H => RtB v fun b21 => BrB (!b21)
    (K (.bool false) H) (Fn 33 [.pointer p_f] H fun v H => RtI .i64 v fun i25 => Fn 70 [.pointer p_g] H fun v H => RtI .i64 v fun i27 => BrB ((i25 : Int) != i27)
    (K (.bool false) H) (Fn 36 [.pointer p_f] H fun v H => RtI .i64 v fun i32 => Fn 71 [.pointer p_g] H fun v H => RtI .i64 v fun i34 => BrB ((i32 : Int) != i34)
    (K (.bool false) H) (Fn 32 [.pointer p_f] H fun v H => RtI .i64 v fun i39 => Fn 72 [.pointer p_g] H fun v H => RtI .i64 v fun i41 => BrB ((i39 : Int) != i41)
    (K (.bool false) H) (Fn 34 [.pointer p_f] H fun v H => RtB v fun b46 => Fn 73 [.pointer p_g] H fun v H => RtB v fun b48 => BrB (!(b46 == b48)) (K (.bool false)
    H) (Ld (cellH H (Addr.add ⟨nb, 0, none⟩ 1)) fun w54 => RtS w54 fun s54 => Ld (cellH H (Addr.add ⟨nb, 0, none⟩ 3)) fun w56 => RtI .i64 w56 fun i56 => Fn 21
    [.pointer p_f, .string s54, .int .i64 i56, .int .i64 5] H fun v H => RtT 2 v fun ts => RtL (ts.getD 0 undef) fun a57 l57 c57 => RtI .i64 (ts.getD 1 undef) fun
    i57 => Ld (cellH H (Addr.add ⟨nb, 0, none⟩ 1)) fun w63 => RtS w63 fun s63 => Ld (cellH H (Addr.add ⟨nb, 0, none⟩ 3)) fun w65 => RtI .i64 w65 fun i65 => Fn 74
    [.pointer p_g, .string s63, .int .i64 i65, .int .i64 5] H fun v H => RtT 2 v fun ts_1 => RtL (ts_1.getD 0 undef) fun a66 l66 c66 => RtI .i64 (ts_1.getD 1
    undef) fun i66 => Ld (cellH H (Addr.add ⟨nb, 0, none⟩ 1)) fun w72 => RtS w72 fun s72 => Fn 45 [.pointer p_f, .string s72] H fun v H => RtT 2 v fun ts_2 => RtI
    .i64 (ts_2.getD 0 undef) fun i73 => RtI .i64 (ts_2.getD 1 undef) fun i73_1 => Ld (cellH H (Addr.add ⟨nb, 0, none⟩ 1)) fun w79 => RtS w79 fun s79 => Fn 75
    [.pointer p_g, .string s79] H fun v H => RtT 2 v fun ts_3 => RtI .i64 (ts_3.getD 0 undef) fun i80 => RtI .i64 (ts_3.getD 1 undef) fun i80_1 => Fn 22 [.slice
    a57 l57 c57, .slice a66 l66 c66] H fun v H => RtB v fun b85 => BrB (!b85) (K (.bool false) H) (BrB ((i57 : Int) != i66) (K (.bool false) H) (BrB ((i73 : Int)
    != i80) (K (.bool false) H) (BrB ((i73_1 : Int) != i80_1) (K (.bool false) H) (Fn 76 [.pointer p_f, .pointer p_g, .slice a17 l17 c17] H fun v H => RtB v fun
    b105 => K (.bool b105) H)))))))))
def tb39 : Tab := { ord := [], ent := [], lp := [], jn := [] }
theorem F39_eq (p_f : Option Addr) (p_g : Option Addr) (i_o : Int) (s_o : ByteArray) (s_o_1 : ByteArray) (i_o_1 : Int) (a_o : Option Addr) (l_o : Nat) (c_o : Nat) (H : Heap) (K : Value → Heap → Prop) : F39 p_f p_g i_o s_o s_o_1 i_o_1 a_o l_o c_o H K = FnW Try.prog tb39 39 [.pointer p_f, .pointer p_g, .agg ⟨[.int .u8 i_o, .string s_o, .string s_o_1, .int .i64 i_o_1, .slice a_o l_o c_o]⟩] H K := by kernel_rfl
theorem F39_is : isFnB Try.prog 39 = true := by kernel_rfl
theorem F39_ok (p_f : Option Addr) (p_g : Option Addr) (i_o : Int) (s_o : ByteArray) (s_o_1 : ByteArray) (i_o_1 : Int) (a_o : Option Addr) (l_o : Nat) (c_o : Nat) {H : Heap} {K : Value → Heap → Prop} (h : F39 p_f p_g i_o s_o s_o_1 i_o_1 a_o l_o c_o H K) : Fn 39 [.pointer p_f, .pointer p_g, .agg ⟨[.int .u8 i_o, .string s_o, .string s_o_1, .int .i64 i_o_1, .slice a_o l_o c_o]⟩] H K :=
  FnH.of_W mixed F39_is (by kernel_rfl) (cast (F39_eq p_f p_g i_o s_o s_o_1 i_o_1 a_o l_o c_o H K) h)

/- stook/stookref00.CopyInts -/
def F40 (a_l : Option Addr) (l_l : Nat) (c_l : Nat) (H : Heap) (K : Value → Heap → Prop) : Prop :=
  Smk Try.prog (Builtin.append_ #[23, 23] 23 ⟨[.slice none 0 0, .slice a_l l_l c_l]⟩) H fun v H => RtL v fun a6 l6 c6 => K (.slice a6 l6 c6) H
def tb40 : Tab := { ord := [], ent := [], lp := [], jn := [] }
theorem F40_eq (a_l : Option Addr) (l_l : Nat) (c_l : Nat) (H : Heap) (K : Value → Heap → Prop) : F40 a_l l_l c_l H K = FnW Try.prog tb40 40 [.slice a_l l_l c_l] H K := by kernel_rfl
theorem F40_is : isFnB Try.prog 40 = true := by kernel_rfl
theorem F40_ok (a_l : Option Addr) (l_l : Nat) (c_l : Nat) {H : Heap} {K : Value → Heap → Prop} (h : F40 a_l l_l c_l H K) : Fn 40 [.slice a_l l_l c_l] H K :=
  FnH.of_W mixed F40_is (by kernel_rfl) (cast (F40_eq a_l l_l c_l H K) h)

/- (*stook/stookref14.FS).Fail -/
def F41 (p_f : Option Addr) (a_cuts : Option Addr) (l_cuts : Nat) (c_cuts : Nat) (H : Heap) (K : Value → Heap → Prop) : Prop :=
  New H (.cells ⟨[.slice a_cuts l_cuts c_cuts, .int .i64 0]⟩ 106) fun nb H => NilC p_f fun q18 => Ld (cellH H (Addr.add q18 2)) fun w20 => RtL w20 fun a20 l20 c20
    => NilC p_f fun q23 => Ld (cellH H (Addr.add q23 3)) fun w25 => RtL w25 fun a25 l25 c25 => Fn 77 [.pointer (some ⟨nb, 0, none⟩), .int .i64 (IntKind.wrap .i64
    (((l25 : Nat) : Int) + 1))] H fun v H => RtI .i64 v fun i28 => Jn (fun J : Option Addr → Nat → Nat → Heap → Prop => ∀ _ : Fr, ∀ a_dir : Option Addr, ∀ l_dir :
    Nat, ∀ c_dir : Nat, ∀ H : Heap, J a_dir l_dir c_dir H → NilC p_f fun q40 => Ld (cellH H (Addr.add q40 0)) fun w42 => RtI .i64 w42 fun i42 => New H (.cells
    ⟨[.int .i64 i42, .slice none 0 0, .slice none 0 0, .slice none 0 0, .slice none 0 0, .int .i64 0, .int .i64 0, .bool false]⟩ 102) fun nb_1 H => Lp (fun (I :
    Int → Heap → Prop) (_ : Int → Heap → Nat) => I 0 H) (fun I M => ∀ _ : Fr, ∀ i_i : Int, ∀ H0 : Heap, I i_i H0 → At H0 fun H => BrB (decide ((i_i : Int) <
    ((l_dir : Nat) : Int))) (NilC p_f fun q52 => Ld (cellH H (Addr.add q52 1)) fun w54 => RtL w54 fun a54 l54 c54 => Idx a_dir l_dir i_i 2 fun e57 => Ld (cellH H
    (Addr.add e57 1)) fun w59 => RtI .i64 w59 fun i59 => Idx a54 l54 i59 2 fun e60 => NilC (some e60) fun q63 => Ld (cellH H (Addr.add q63 1)) fun w65 => RtL w65
    fun a65 l65 c65 => Fn 77 [.pointer (some ⟨nb, 0, none⟩), .int .i64 (IntKind.wrap .i64 (((l65 : Nat) : Int) + 1))] H fun v H => RtI .i64 v fun i68 => Fn 78
    [.pointer (some e60), .int .i64 i68] H fun v H => RtL v fun a71 l71 c71 => Jn (fun J_1 : Option Addr → Nat → Nat → Heap → Prop => ∀ _ : Fr, ∀ a_b : Option
    Addr, ∀ l_b : Nat, ∀ c_b : Nat, ∀ H : Heap, J_1 a_b l_b c_b H → NilC (some ⟨nb_1, 0, none⟩) fun q114 => Ld (cellH H (Addr.add q114 1)) fun w116 => RtL w116 fun
    a116 l116 c116 => Smk Try.prog (Instr.buildSlice 98 1 ⟨[(0, .agg ⟨[.slice a_b l_b c_b, .slice none 0 0]⟩)]⟩) H fun v H => RtL v fun a119 l119 c119 => Smk
    Try.prog (Builtin.append_ #[98, 98] 98 ⟨[.slice a116 l116 c116, .slice a119 l119 c119]⟩) H fun v H => RtL v fun a120 l120 c120 => NilC (some ⟨nb_1, 0, none⟩)
    fun q121 => StV H (Addr.add q121 1) 1 [.slice a120 l120 c120] fun H => NilC (some ⟨nb_1, 0, none⟩) fun q125 => Ld (cellH H (Addr.add q125 2)) fun w127 => RtL
    w127 fun a127 l127 c127 => Idx a_dir l_dir i_i 2 fun e130 => Ld (cellH H (Addr.add e130 0)) fun w132 => RtS w132 fun s132 => Smk Try.prog (Instr.buildSlice 99
    1 ⟨[(0, .agg ⟨[.string s132, .int .i64 i_i]⟩)]⟩) H fun v H => RtL v fun a135 l135 c135 => Ck (cellH H (Addr.add q125 2) = some w127) (Smk Try.prog
    (Builtin.append_ #[99, 99] 99 ⟨[.slice a127 l127 c127, .slice a135 l135 c135]⟩) H fun v H => RtL v fun a136 l136 c136 => NilC (some ⟨nb_1, 0, none⟩) fun q137
    => StV H (Addr.add q137 2) 1 [.slice a136 l136 c136] fun H => I (IntKind.wrap .i64 (i_i + 1)) H ∧ M (IntKind.wrap .i64 (i_i + 1)) H < M i_i H0)) (fun J_1 =>
    NilC (some e60) fun q74 => Ld (cellH H (Addr.add q74 1)) fun w76 => RtL w76 fun a76 l76 c76 => BrB (decide ((i68 : Int) < ((l76 : Nat) : Int))) (NilC (some
    e60) fun q81 => Ld (cellH H (Addr.add q81 1)) fun w83 => RtL w83 fun a83 l83 c83 => Idx a83 l83 i68 3 fun e85 => Ld (cellH H (Addr.add e85 0)) fun w87 => RtB
    w87 fun b87 => BrB (!b87) (NilC (some e60) fun q92 => Ld (cellH H (Addr.add q92 1)) fun w94 => RtL w94 fun a94 l94 c94 => Idx a94 l94 i68 3 fun e96 => Ld
    (cellH H (Addr.add e96 2)) fun w98 => RtL w98 fun a98 l98 c98 => Fn 77 [.pointer (some ⟨nb, 0, none⟩), .int .i64 (IntKind.wrap .i64 (((l98 : Nat) : Int) + 1))]
    H fun v H => RtI .i64 v fun i101 => NilC (some e60) fun q104 => Ld (cellH H (Addr.add q104 1)) fun w106 => RtL w106 fun a106 l106 c106 => Idx a106 l106 i68 3
    fun e108 => Ld (rowV H e108 3) fun w109 => RtA 3 w109 fun ws => RtB (ws.getD 0 undef) fun b109 => RtI .i64 (ws.getD 1 undef) fun i109 => RtL (ws.getD 2 undef)
    fun a109 l109 c109 => Fn 79 [.slice a71 l71 c71, .agg ⟨[.bool b109, .int .i64 i109, .slice a109 l109 c109]⟩, .int .i64 i101] H fun v H => RtL v fun a111 l111
    c111 => J_1 a111 l111 c111 H) (J_1 a71 l71 c71 H)) (J_1 a71 l71 c71 H))) (NilC (some ⟨nb_1, 0, none⟩) fun q141 => Ld (cellH H (Addr.add q141 2)) fun w143 =>
    RtL w143 fun a143 l143 c143 => NilC (some ⟨nb_1, 0, none⟩) fun q144 => StV H (Addr.add q144 4) 1 [.slice a143 l143 c143] fun H => K (.pointer (some ⟨nb_1, 0,
    none⟩)) H))) (fun J => BrB (decide ((i28 : Int) > 0)) (NilC p_f fun q32 => Ld (cellH H (Addr.add q32 3)) fun w34 => RtL w34 fun a34 l34 c34 => Idx a34 l34
    (IntKind.wrap .i64 (i28 - 1)) 1 fun e37 => Ld (cellH H e37) fun w38 => RtL w38 fun a38 l38 c38 => J a38 l38 c38 H) (J a20 l20 c20 H))
def tb41 : Tab := { ord := [(10, [0, 1, 2, 3, 4, 5, 6, 7, 8, 9, 10]), (17, [0, 1, 2, 3, 4, 5, 6, 7, 8, 9, 10, 11, 12, 13, 14, 15, 16])], ent := [], lp := [(8, [(9, .one (.int .i64))])], jn := [(4, [(6, .one (.sl))]), (13, [(12, .one (.sl))])] }
theorem F41_eq (p_f : Option Addr) (a_cuts : Option Addr) (l_cuts : Nat) (c_cuts : Nat) (H : Heap) (K : Value → Heap → Prop) : F41 p_f a_cuts l_cuts c_cuts H K = FnW Try.prog tb41 41 [.pointer p_f, .slice a_cuts l_cuts c_cuts] H K := by kernel_rfl
theorem F41_is : isFnB Try.prog 41 = true := by kernel_rfl
theorem F41_ok (p_f : Option Addr) (a_cuts : Option Addr) (l_cuts : Nat) (c_cuts : Nat) {H : Heap} {K : Value → Heap → Prop} (h : F41 p_f a_cuts l_cuts c_cuts H K) : Fn 41 [.pointer p_f, .slice a_cuts l_cuts c_cuts] H K :=
  FnH.of_W mixed F41_is (by kernel_rfl) (cast (F41_eq p_f a_cuts l_cuts c_cuts H K) h)

/- stook/stookref00.Ints -/
def F42 (a_a : Option Addr) (l_a : Nat) (c_a : Nat) (a_b : Option Addr) (l_b : Nat) (c_b : Nat) (H : Heap) (K : Value → Heap → Prop) : Prop :=
  BrB ((((l_a : Nat) : Int) : Int) != ((l_b : Nat) : Int)) (K (.bool false) H) (Lp (fun (I : Int → Heap → Prop) (_ : Int → Heap → Nat) => I 0 H) (fun I M => ∀ _ :
    Fr, ∀ i_i : Int, ∀ H0 : Heap, I i_i H0 → At H0 fun H => BrB (decide ((i_i : Int) < ((l_a : Nat) : Int))) (Idx a_a l_a i_i 1 fun e19 => Ld (cellH H e19) fun w20
    => RtI .i64 w20 fun i20 => Idx a_b l_b i_i 1 fun e23 => Ld (cellH H e23) fun w24 => RtI .i64 w24 fun i24 => BrB ((i20 : Int) != i24) (K (.bool false) H) (I
    (IntKind.wrap .i64 (i_i + 1)) H ∧ M (IntKind.wrap .i64 (i_i + 1)) H < M i_i H0)) (K (.bool true) H)))
def tb42 : Tab := { ord := [(6, [0, 1, 2, 3, 4, 5, 6, 7, 8])], ent := [], lp := [(4, [(5, .one (.int .i64))])], jn := [] }
theorem F42_eq (a_a : Option Addr) (l_a : Nat) (c_a : Nat) (a_b : Option Addr) (l_b : Nat) (c_b : Nat) (H : Heap) (K : Value → Heap → Prop) : F42 a_a l_a c_a a_b l_b c_b H K = FnW Try.prog tb42 42 [.slice a_a l_a c_a, .slice a_b l_b c_b] H K := by kernel_rfl
theorem F42_is : isFnB Try.prog 42 = true := by kernel_rfl
theorem F42_ok (a_a : Option Addr) (l_a : Nat) (c_a : Nat) (a_b : Option Addr) (l_b : Nat) (c_b : Nat) {H : Heap} {K : Value → Heap → Prop} (h : F42 a_a l_a c_a a_b l_b c_b H K) : Fn 42 [.slice a_a l_a c_a, .slice a_b l_b c_b] H K :=
  FnH.of_W mixed F42_is (by kernel_rfl) (cast (F42_eq a_a l_a c_a a_b l_b c_b H K) h)

/- (*stook/simfs.FS).Copy -/
def F43 (p_f : Option Addr) (H : Heap) (K : Value → Heap → Prop) : Prop :=
  BrB (Option.isNone p_f) (K (.pointer none) H) (NilC p_f fun q11 => Ld (cellH H (Addr.add q11 0)) fun w13 => RtB w13 fun b13 => BrB (!b13) (K (.pointer none) H)
    (NilC p_f fun q17 => Ld (rowV H q17 11) fun w18 => RtA 11 w18 fun ws => RtB (ws.getD 0 undef) fun b18 => RtI .i64 (ws.getD 1 undef) fun i18 => RtI .i64
    (ws.getD 2 undef) fun i18_1 => RtM (ws.getD 3 undef) fun m18 => RtI .i64 (ws.getD 4 undef) fun i18_2 => RtM (ws.getD 5 undef) fun m18_1 => RtM (ws.getD 6
    undef) fun m18_2 => RtL (ws.getD 7 undef) fun a18 l18 c18 => RtI .i64 (ws.getD 8 undef) fun i18_3 => RtI .i64 (ws.getD 9 undef) fun i18_4 => RtB (ws.getD 10
    undef) fun b18_1 => New H (.cells ⟨[.bool false, .int .i64 0, .int .i64 0, .map none, .int .i64 0, .map none, .map none, .slice none 0 0, .int .i64 0, .int
    .i64 0, .bool false]⟩ 73) fun nb H => StV H ⟨nb, 0, none⟩ 11 [.bool b18, .int .i64 i18, .int .i64 i18_1, .map m18, .int .i64 i18_2, .map m18_1, .map m18_2,
    .slice a18 l18 c18, .int .i64 i18_3, .int .i64 i18_4, .bool b18_1] fun H => NilC p_f fun q20 => Ld (cellH H (Addr.add q20 3)) fun w22 => RtM w22 fun m22 => Rv
    (Rd Try.prog (Builtin.len_ #[69] 3 #[.map m22]) H) fun w23 => RtI .i64 w23 fun i23 => New H (.map ⟨[]⟩ 0) fun nb_1 H => StV H (Addr.add ⟨nb, 0, none⟩ 3) 1
    [.map (some nb_1)] fun H => NilC p_f fun q27 => Ld (cellH H (Addr.add q27 3)) fun w29 => RtM w29 fun m29 => Smk Try.prog (Instr.range 69 (.map m29)) H fun v H
    => ∃ i_t30 : Addr, v = .pointer (some i_t30) ∧ (Lp (fun (I : Heap → Prop) (_ : Heap → Nat) => I  H) (fun I M => ∀ _ : Fr, ∀ H0 : Heap, I H0 → At H0 fun H =>
    NextK Try.prog (Instr.next (.pointer (some i_t30)) false 0) H (fun H => NilC p_f fun q65 => Ld (cellH H (Addr.add q65 5)) fun w67 => RtM w67 fun m67 => NilC
    p_f fun q70 => Ld (cellH H (Addr.add q70 6)) fun w72 => RtM w72 fun m72 => Fn 52 [.map m67] H fun v H => RtM v fun m68 => Ck (cellH H (Addr.add q70 6) = some
    w72) (Fn 52 [.map m72] H fun v H => RtM v fun m73 => StV H (Addr.add ⟨nb, 0, none⟩ 5) 1 [.map m68] fun H => StV H (Addr.add ⟨nb, 0, none⟩ 6) 1 [.map m73] fun H
    => NilC p_f fun q77 => Ld (cellH H (Addr.add q77 7)) fun w79 => RtL w79 fun a79 l79 c79 => Smk Try.prog (Builtin.append_ #[71, 71] 71 ⟨[.slice none 0 0, .slice
    a79 l79 c79]⟩) H fun v H => RtL v fun a80 l80 c80 => StV H (Addr.add ⟨nb, 0, none⟩ 7) 1 [.slice a80 l80 c80] fun H => K (.pointer (some ⟨nb, 0, none⟩)) H)) fun
    k31 x31 H => Rv (Rd Try.prog (Instr.entry (.pointer (some i_t30))) H) fun w33 => RtT 2 w33 fun ts => RtI .i64 (ts.getD 0 undef) fun i33 => RtP (ts.getD 1
    undef) fun p33 => NilC p33 fun q37 => Ld (cellH H (Addr.add q37 0)) fun w39 => RtL w39 fun a39 l39 c39 => NilC p33 fun q42 => Ld (cellH H (Addr.add q42 1)) fun
    w44 => RtL w44 fun a44 l44 c44 => Smk Try.prog (Builtin.append_ #[22, 22] 22 ⟨[.slice none 0 0, .slice a39 l39 c39]⟩) H fun v H => RtL v fun a40 l40 c40 => Ck
    (cellH H (Addr.add q42 1) = some w44) (Smk Try.prog (Builtin.append_ #[22, 22] 22 ⟨[.slice none 0 0, .slice a44 l44 c44]⟩) H fun v H => RtL v fun a45 l45 c45
    => New H (.cells ⟨[.slice a40 l40 c40, .slice a45 l45 c45, .slice none 0 0]⟩ 82) fun nb_2 H => NilC (some ⟨nb_2, 0, none⟩) fun q50 => Ld (cellH H (Addr.add q50
    2)) fun w52 => RtL w52 fun a52 l52 c52 => NilC p33 fun q54 => Ld (cellH H (Addr.add q54 2)) fun w56 => RtL w56 fun a56 l56 c56 => Smk Try.prog (Builtin.append_
    #[80, 80] 80 ⟨[.slice a52 l52 c52, .slice a56 l56 c56]⟩) H fun v H => RtL v fun a57 l57 c57 => NilC (some ⟨nb_2, 0, none⟩) fun q58 => StV H (Addr.add q58 2) 1
    [.slice a57 l57 c57] fun H => Ld (cellH H (Addr.add ⟨nb, 0, none⟩ 3)) fun w61 => RtM w61 fun m61 => SmUk Try.prog (Instr.mapUpdate 69 (.map m61) (.int .i64
    i33) (.pointer (some ⟨nb_2, 0, none⟩))) H fun H => I  H ∧ M  H < M H0)))))
def tb43 : Tab := { ord := [(8, [0, 1, 2, 3, 5, 6, 7, 8, 4, 9, 10, 11, 12]), (9, [0, 1, 2, 3, 4, 5, 6, 7, 8, 9, 10, 11, 12]), (11, [0, 1, 2, 3, 5, 6, 7, 8, 4, 9, 10, 11, 12, 13])], ent := [(33, 3, 79)], lp := [(6, [])], jn := [] }
theorem F43_eq (p_f : Option Addr) (H : Heap) (K : Value → Heap → Prop) : F43 p_f H K = FnW Try.prog tb43 43 [.pointer p_f] H K := by kernel_rfl
theorem F43_is : isFnB Try.prog 43 = true := by kernel_rfl
theorem F43_ok (p_f : Option Addr) {H : Heap} {K : Value → Heap → Prop} (h : F43 p_f H K) : Fn 43 [.pointer p_f] H K :=
  FnH.of_W mixed F43_is (by kernel_rfl) (cast (F43_eq p_f H K) h)

/- (*stook/stookref14.FS).Copy -/
def F44 (p_f : Option Addr) (H : Heap) (K : Value → Heap → Prop) : Prop :=
  NilC p_f fun q7 => Ld (cellH H (Addr.add q7 0)) fun w9 => RtI .i64 w9 fun i9 => NilC p_f fun q11 => Ld (cellH H (Addr.add q11 2)) fun w13 => RtL w13 fun a13 l13
    c13 => NilC p_f fun q15 => Ld (cellH H (Addr.add q15 4)) fun w17 => RtL w17 fun a17 l17 c17 => NilC p_f fun q19 => Ld (cellH H (Addr.add q19 5)) fun w21 => RtI
    .i64 w21 fun i21 => NilC p_f fun q23 => Ld (cellH H (Addr.add q23 6)) fun w25 => RtI .i64 w25 fun i25 => NilC p_f fun q27 => Ld (cellH H (Addr.add q27 7)) fun
    w29 => RtB w29 fun b29 => New H (.cells ⟨[.int .i64 i9, .slice none 0 0, .slice a13 l13 c13, .slice none 0 0, .slice a17 l17 c17, .int .i64 i21, .int .i64 i25,
    .bool b29]⟩ 102) fun nb H => NilC (some ⟨nb, 0, none⟩) fun q34 => Ld (cellH H (Addr.add q34 3)) fun w36 => RtL w36 fun a36 l36 c36 => NilC p_f fun q38 => Ld
    (cellH H (Addr.add q38 3)) fun w40 => RtL w40 fun a40 l40 c40 => Smk Try.prog (Builtin.append_ #[100, 100] 100 ⟨[.slice a36 l36 c36, .slice a40 l40 c40]⟩) H
    fun v H => RtL v fun a41 l41 c41 => NilC (some ⟨nb, 0, none⟩) fun q42 => StV H (Addr.add q42 3) 1 [.slice a41 l41 c41] fun H => Lp (fun (I : Int → Heap → Prop)
    (_ : Int → Heap → Nat) => I 0 H) (fun I M => ∀ _ : Fr, ∀ i_i : Int, ∀ H0 : Heap, I i_i H0 → At H0 fun H => NilC p_f fun q46 => Ld (cellH H (Addr.add q46 1))
    fun w48 => RtL w48 fun a48 l48 c48 => BrB (decide ((i_i : Int) < ((l48 : Nat) : Int))) (NilC p_f fun q55 => Ld (cellH H (Addr.add q55 1)) fun w57 => RtL w57
    fun a57 l57 c57 => Idx a57 l57 i_i 2 fun e59 => Ld (cellH H (Addr.add e59 1)) fun w61 => RtL w61 fun a61 l61 c61 => Smk Try.prog (Builtin.append_ #[108, 108]
    108 ⟨[.slice none 0 0, .slice a61 l61 c61]⟩) H fun v H => RtL v fun a62 l62 c62 => NilC (some ⟨nb, 0, none⟩) fun q65 => Ld (cellH H (Addr.add q65 1)) fun w67
    => RtL w67 fun a67 l67 c67 => NilC p_f fun q69 => Ld (cellH H (Addr.add q69 1)) fun w71 => RtL w71 fun a71 l71 c71 => Idx a71 l71 i_i 2 fun e73 => Ld (cellH H
    (Addr.add e73 0)) fun w75 => RtL w75 fun a75 l75 c75 => Smk Try.prog (Instr.buildSlice 98 1 ⟨[(0, .agg ⟨[.slice a75 l75 c75, .slice a62 l62 c62]⟩)]⟩) H fun v H
    => RtL v fun a78 l78 c78 => Ck (cellH H (Addr.add q65 1) = some w67) (Smk Try.prog (Builtin.append_ #[98, 98] 98 ⟨[.slice a67 l67 c67, .slice a78 l78 c78]⟩) H
    fun v H => RtL v fun a79 l79 c79 => NilC (some ⟨nb, 0, none⟩) fun q80 => StV H (Addr.add q80 1) 1 [.slice a79 l79 c79] fun H => I (IntKind.wrap .i64 (i_i + 1))
    H ∧ M (IntKind.wrap .i64 (i_i + 1)) H < M i_i H0)) (K (.pointer (some ⟨nb, 0, none⟩)) H))
def tb44 : Tab := { ord := [(1, [0, 1, 2, 3, 4, 5, 6, 7, 8, 9, 10, 11, 12, 13, 14, 15, 16, 17, 18, 19, 20, 21, 22, 23, 24, 25, 26]), (2, [0, 1, 2, 3, 4, 5, 6, 7, 8, 9, 10, 11, 12]), (8, [0, 1, 2, 3, 4, 5, 6, 7, 8, 9, 10, 11, 12, 13, 14, 15, 16, 17, 18, 19])], ent := [], lp := [(4, [(4, .one (.int .i64))])], jn := [] }
theorem F44_eq (p_f : Option Addr) (H : Heap) (K : Value → Heap → Prop) : F44 p_f H K = FnW Try.prog tb44 44 [.pointer p_f] H K := by kernel_rfl
theorem F44_is : isFnB Try.prog 44 = true := by kernel_rfl
theorem F44_ok (p_f : Option Addr) {H : Heap} {K : Value → Heap → Prop} (h : F44 p_f H K) : Fn 44 [.pointer p_f] H K :=
  FnH.of_W mixed F44_is (by kernel_rfl) (cast (F44_eq p_f H K) h)

/- (*stook/simfs.FS).Size -/
def F45 (p_f : Option Addr) (s_name : ByteArray) (H : Heap) (K : Value → Heap → Prop) : Prop :=
  Fn 49 [.pointer p_f, .string s_name] H fun v H => RtT 2 v fun ts => RtP (ts.getD 0 undef) fun p11 => RtI .i64 (ts.getD 1 undef) fun i11 => BrB ((i11 : Int) != 0)
    (K (.tuple ⟨[.int .i64 0, .int .i64 i11]⟩) H) (NilC p11 fun q18 => Ld (cellH H (Addr.add q18 1)) fun w20 => RtL w20 fun a20 l20 c20 => K (.tuple ⟨[.int .i64
    ((l20 : Nat) : Int), .int .i64 0]⟩) H)
def tb45 : Tab := { ord := [], ent := [], lp := [], jn := [] }
theorem F45_eq (p_f : Option Addr) (s_name : ByteArray) (H : Heap) (K : Value → Heap → Prop) : F45 p_f s_name H K = FnW Try.prog tb45 45 [.pointer p_f, .string s_name] H K := by kernel_rfl
theorem F45_is : isFnB Try.prog 45 = true := by kernel_rfl
theorem F45_ok (p_f : Option Addr) (s_name : ByteArray) {H : Heap} {K : Value → Heap → Prop} (h : F45 p_f s_name H K) : Fn 45 [.pointer p_f, .string s_name] H K :=
  FnH.of_W mixed F45_is (by kernel_rfl) (cast (F45_eq p_f s_name H K) h)

/- (*stook/simfs.FS).ready -/
def F46 (p_f : Option Addr) (H : Heap) (K : Value → Heap → Prop) : Prop :=
  BrB (Option.isNone p_f) (K (.int .i64 1) H) (NilC p_f fun q8 => Ld (cellH H (Addr.add q8 0)) fun w10 => RtB w10 fun b10 => BrB (!b10) (K (.int .i64 1) H) (NilC
    p_f fun q15 => Ld (cellH H (Addr.add q15 10)) fun w17 => RtB w17 fun b17 => BrB b17 (K (.int .i64 13) H) (K (.int .i64 0) H)))
def tb46 : Tab := { ord := [], ent := [], lp := [], jn := [] }
theorem F46_eq (p_f : Option Addr) (H : Heap) (K : Value → Heap → Prop) : F46 p_f H K = FnW Try.prog tb46 46 [.pointer p_f] H K := by kernel_rfl
theorem F46_is : isFnB Try.prog 46 = true := by kernel_rfl
theorem F46_ok (p_f : Option Addr) {H : Heap} {K : Value → Heap → Prop} (h : F46 p_f H K) : Fn 46 [.pointer p_f] H K :=
  FnH.of_W mixed F46_is (by kernel_rfl) (cast (F46_eq p_f H K) h)

/- stook/simfs.isName -/
def F47 (s_s : ByteArray) (H : Heap) (K : Value → Heap → Prop) : Prop :=
  Smk Try.prog (convert 9 22 (.string s_s)) H fun v H => RtL v fun a6 l6 c6 => Lp (fun (I : Int → Heap → Prop) (_ : Int → Heap → Nat) => I 0 H) (fun I M => ∀ _ :
    Fr, ∀ i8 : Int, ∀ H0 : Heap, I i8 H0 → At H0 fun H => BrB (decide ((i8 : Int) < ((l6 : Nat) : Int))) (Idx a6 l6 i8 1 fun e10 => Ld (cellH H e10) fun w11 => RtI
    .u8 w11 fun i11 => Jn (fun J : Bool → Heap → Prop => ∀ _ : Fr, ∀ b12 : Bool, ∀ H : Heap, J b12 H → BrB b12 (I (IntKind.wrap .i64 (i8 + 1)) H ∧ M (IntKind.wrap
    .i64 (i8 + 1)) H < M i8 H0) (K (.bool false) H)) (fun J => BrB (decide ((i11 : Int) ≥ 97)) (BrB (decide ((i11 : Int) ≤ 122)) (J (decide ((i11 : Int) ≤ 122)) H)
    (BrB (decide ((i11 : Int) ≥ 48)) (BrB (decide ((i11 : Int) ≤ 57)) (J (decide ((i11 : Int) ≤ 57)) H) (BrB ((i11 : Int) == 46) (J ((i11 : Int) == 46) H) (J ((i11
    : Int) == 45) H))) (BrB ((i11 : Int) == 46) (J ((i11 : Int) == 46) H) (J ((i11 : Int) == 45) H)))) (BrB (decide ((i11 : Int) ≥ 48)) (BrB (decide ((i11 : Int) ≤
    57)) (J (decide ((i11 : Int) ≤ 57)) H) (BrB ((i11 : Int) == 46) (J ((i11 : Int) == 46) H) (J ((i11 : Int) == 45) H))) (BrB ((i11 : Int) == 46) (J ((i11 : Int)
    == 46) H) (J ((i11 : Int) == 45) H))))) (BrB (decide ((((s_s.size : Nat) : Int) : Int) ≥ 1)) (K (.bool (decide ((((s_s.size : Nat) : Int) : Int) ≤ 32))) H) (K
    (.bool false) H)))
def tb47 : Tab := { ord := [], ent := [], lp := [(2, [(8, .one (.int .i64))])], jn := [(5, [(12, .one (.bool))])] }
theorem F47_eq (s_s : ByteArray) (H : Heap) (K : Value → Heap → Prop) : F47 s_s H K = FnW Try.prog tb47 47 [.string s_s] H K := by kernel_rfl
theorem F47_is : isFnB Try.prog 47 = true := by kernel_rfl
theorem F47_ok (s_s : ByteArray) {H : Heap} {K : Value → Heap → Prop} (h : F47 s_s H K) : Fn 47 [.string s_s] H K :=
  FnH.of_W mixed F47_is (by kernel_rfl) (cast (F47_eq s_s H K) h)

/- (*stook/simfs.FS).turn -/
def F48 (p_f : Option Addr) (i_m : Int) (s_m : ByteArray) (s_m_1 : ByteArray) (i_m_1 : Int) (H : Heap) (K : Value → Heap → Prop) : Prop :=
  New H (.cells ⟨[.int .i64 i_m, .string s_m, .string s_m_1, .int .i64 i_m_1]⟩ 85) fun nb H => Ld (rowV H ⟨nb, 0, none⟩ 4) fun w5 => RtA 4 w5 fun ws => RtI .i64
    (ws.getD 0 undef) fun i5 => RtS (ws.getD 1 undef) fun s5 => RtS (ws.getD 2 undef) fun s5_1 => RtI .i64 (ws.getD 3 undef) fun i5_1 => NilC p_f fun q7 => Ld
    (cellH H (Addr.add q7 6)) fun w9 => RtM w9 fun m9 => Fn 54 [.agg ⟨[.int .i64 i5, .string s5, .string s5_1, .int .i64 i5_1]⟩, .map m9] H fun v H => Rt0 v (NilC
    p_f fun q13 => Ld (cellH H (Addr.add q13 7)) fun w15 => RtL w15 fun a15 l15 c15 => Ld (rowV H ⟨nb, 0, none⟩ 4) fun w16 => RtA 4 w16 fun ws_1 => RtI .i64
    (ws_1.getD 0 undef) fun i16 => RtS (ws_1.getD 1 undef) fun s16 => RtS (ws_1.getD 2 undef) fun s16_1 => RtI .i64 (ws_1.getD 3 undef) fun i16_1 => Smk Try.prog
    (Instr.buildSlice 71 1 ⟨[(0, .agg ⟨[.int .i64 i16, .string s16, .string s16_1, .int .i64 i16_1]⟩)]⟩) H fun v H => RtL v fun a17 l17 c17 => Ck (cellH H
    (Addr.add q13 7) = some w15) (Smk Try.prog (Builtin.append_ #[71, 71] 71 ⟨[.slice a15 l15 c15, .slice a17 l17 c17]⟩) H fun v H => RtL v fun a18 l18 c18 => NilC
    p_f fun q19 => StV H (Addr.add q19 7) 1 [.slice a18 l18 c18] fun H => Fn 57 [.pointer p_f] H fun v H => Rt0 v (Fn 80 [.pointer p_f] H fun v H => RtI .i64 v fun
    i24 => K (.int .i64 i24) H)))
def tb48 : Tab := { ord := [(1, [0, 1, 2, 3, 4, 5]), (2, [0, 1, 2, 3, 4, 5, 6, 7, 8, 9, 10])], ent := [], lp := [], jn := [] }
theorem F48_eq (p_f : Option Addr) (i_m : Int) (s_m : ByteArray) (s_m_1 : ByteArray) (i_m_1 : Int) (H : Heap) (K : Value → Heap → Prop) : F48 p_f i_m s_m s_m_1 i_m_1 H K = FnW Try.prog tb48 48 [.pointer p_f, .agg ⟨[.int .i64 i_m, .string s_m, .string s_m_1, .int .i64 i_m_1]⟩] H K := by kernel_rfl
theorem F48_is : isFnB Try.prog 48 = true := by kernel_rfl
theorem F48_ok (p_f : Option Addr) (i_m : Int) (s_m : ByteArray) (s_m_1 : ByteArray) (i_m_1 : Int) {H : Heap} {K : Value → Heap → Prop} (h : F48 p_f i_m s_m s_m_1 i_m_1 H K) : Fn 48 [.pointer p_f, .agg ⟨[.int .i64 i_m, .string s_m, .string s_m_1, .int .i64 i_m_1]⟩] H K :=
  FnH.of_W mixed F48_is (by kernel_rfl) (cast (F48_eq p_f i_m s_m s_m_1 i_m_1 H K) h)

/- (*stook/simfs.FS).get -/
def F49 (p_f : Option Addr) (s_name : ByteArray) (H : Heap) (K : Value → Heap → Prop) : Prop :=
  Fn 46 [.pointer p_f] H fun v H => RtI .i64 v fun i10 => BrB ((i10 : Int) != 0) (K (.tuple ⟨[.pointer none, .int .i64 i10]⟩) H) (NilC p_f fun q16 => Ld (cellH H
    (Addr.add q16 6)) fun w18 => RtM w18 fun m18 => Rv (Rd Try.prog (Instr.lookup 70 (.map m18) (.string s_name) true) H) fun w20 => RtT 2 w20 fun ts => RtI .i64
    (ts.getD 0 undef) fun i20 => RtB (ts.getD 1 undef) fun b20 => BrB (!b20) (K (.tuple ⟨[.pointer none, .int .i64 7]⟩) H) (NilC p_f fun q26 => Ld (cellH H
    (Addr.add q26 3)) fun w28 => RtM w28 fun m28 => Rv (Rd Try.prog (Instr.lookup 69 (.map m28) (.int .i64 i20) false) H) fun w30 => RtP w30 fun p30 => K (.tuple
    ⟨[.pointer p30, .int .i64 0]⟩) H))
def tb49 : Tab := { ord := [], ent := [], lp := [], jn := [] }
theorem F49_eq (p_f : Option Addr) (s_name : ByteArray) (H : Heap) (K : Value → Heap → Prop) : F49 p_f s_name H K = FnW Try.prog tb49 49 [.pointer p_f, .string s_name] H K := by kernel_rfl
theorem F49_is : isFnB Try.prog 49 = true := by kernel_rfl
theorem F49_ok (p_f : Option Addr) (s_name : ByteArray) {H : Heap} {K : Value → Heap → Prop} (h : F49 p_f s_name H K) : Fn 49 [.pointer p_f, .string s_name] H K :=
  FnH.of_W mixed F49_is (by kernel_rfl) (cast (F49_eq p_f s_name H K) h)

/- (*stook/simfs.FS).change -/
def F50 (p_f : Option Addr) (p_x : Option Addr) (b_c : Bool) (i_c : Int) (a_c : Option Addr) (l_c : Nat) (c_c : Nat) (H : Heap) (K : Value → Heap → Prop) : Prop :=
  New H (.cells ⟨[.bool b_c, .int .i64 i_c, .slice a_c l_c c_c]⟩ 90) fun nb H => Ld (rowV H ⟨nb, 0, none⟩ 3) fun w8 => RtA 3 w8 fun ws => RtB (ws.getD 0 undef) fun
    b8 => RtI .i64 (ws.getD 1 undef) fun i8 => RtL (ws.getD 2 undef) fun a8 l8 c8 => NilC p_x fun q10 => Ld (cellH H (Addr.add q10 1)) fun w12 => RtL w12 fun a12
    l12 c12 => Fn 81 [.agg ⟨[.bool b8, .int .i64 i8, .slice a8 l8 c8]⟩, .slice a12 l12 c12] H fun v H => RtL v fun a13 l13 c13 => NilC p_x fun q14 => StV H
    (Addr.add q14 1) 1 [.slice a13 l13 c13] fun H => NilC p_x fun q18 => Ld (cellH H (Addr.add q18 2)) fun w20 => RtL w20 fun a20 l20 c20 => Ld (rowV H ⟨nb, 0,
    none⟩ 3) fun w21 => RtA 3 w21 fun ws_1 => RtB (ws_1.getD 0 undef) fun b21 => RtI .i64 (ws_1.getD 1 undef) fun i21 => RtL (ws_1.getD 2 undef) fun a21 l21 c21 =>
    Smk Try.prog (Instr.buildSlice 80 1 ⟨[(0, .agg ⟨[.bool b21, .int .i64 i21, .slice a21 l21 c21]⟩)]⟩) H fun v H => RtL v fun a22 l22 c22 => Ck (cellH H (Addr.add
    q18 2) = some w20) (Smk Try.prog (Builtin.append_ #[80, 80] 80 ⟨[.slice a20 l20 c20, .slice a22 l22 c22]⟩) H fun v H => RtL v fun a23 l23 c23 => NilC p_x fun
    q24 => StV H (Addr.add q24 2) 1 [.slice a23 l23 c23] fun H => Fn 57 [.pointer p_f] H fun v H => Rt0 v (Fn 80 [.pointer p_f] H fun v H => RtI .i64 v fun i29 =>
    K (.int .i64 i29) H))
def tb50 : Tab := { ord := [(1, [0, 1, 2, 3, 4, 5, 6, 7, 8, 9]), (2, [0, 1, 2, 3, 4, 5, 6, 7, 8, 9, 10])], ent := [], lp := [], jn := [] }
theorem F50_eq (p_f : Option Addr) (p_x : Option Addr) (b_c : Bool) (i_c : Int) (a_c : Option Addr) (l_c : Nat) (c_c : Nat) (H : Heap) (K : Value → Heap → Prop) : F50 p_f p_x b_c i_c a_c l_c c_c H K = FnW Try.prog tb50 50 [.pointer p_f, .pointer p_x, .agg ⟨[.bool b_c, .int .i64 i_c, .slice a_c l_c c_c]⟩] H K := by kernel_rfl
theorem F50_is : isFnB Try.prog 50 = true := by kernel_rfl
theorem F50_ok (p_f : Option Addr) (p_x : Option Addr) (b_c : Bool) (i_c : Int) (a_c : Option Addr) (l_c : Nat) (c_c : Nat) {H : Heap} {K : Value → Heap → Prop} (h : F50 p_f p_x b_c i_c a_c l_c c_c H K) : Fn 50 [.pointer p_f, .pointer p_x, .agg ⟨[.bool b_c, .int .i64 i_c, .slice a_c l_c c_c]⟩] H K :=
  FnH.of_W mixed F50_is (by kernel_rfl) (cast (F50_eq p_f p_x b_c i_c a_c l_c c_c H K) h)

/- (*stook/simfs.FS).fails -/
def F51 (p_f : Option Addr) (H : Heap) (K : Value → Heap → Prop) : Prop :=
  NilC p_f fun q4 => Ld (cellH H (Addr.add q4 8)) fun w6 => RtI .i64 w6 fun i6 => NilC p_f fun q8 => StV H (Addr.add q8 8) 1 [.int .i64 (IntKind.wrap .i64 (i6 +
    1))] fun H => Jn (fun J : Heap → Prop => ∀ _ : Fr, ∀ H : Heap, J H → NilC p_f fun q31 => Ld (cellH H (Addr.add q31 10)) fun w33 => RtB w33 fun b33 => K (.bool
    b33) H) (fun J => NilC p_f fun q11 => Ld (cellH H (Addr.add q11 9)) fun w13 => RtI .i64 w13 fun i13 => BrB (decide ((i13 : Int) > 0)) (NilC p_f fun q16 => Ld
    (cellH H (Addr.add q16 9)) fun w18 => RtI .i64 w18 fun i18 => NilC p_f fun q20 => StV H (Addr.add q20 9) 1 [.int .i64 (IntKind.wrap .i64 (i18 - 1))] fun H =>
    NilC p_f fun q24 => Ld (cellH H (Addr.add q24 9)) fun w26 => RtI .i64 w26 fun i26 => NilC p_f fun q28 => StV H (Addr.add q28 10) 1 [.bool ((i26 : Int) == 0)]
    fun H => J  H) (J  H))
def tb51 : Tab := { ord := [], ent := [], lp := [], jn := [(2, [])] }
theorem F51_eq (p_f : Option Addr) (H : Heap) (K : Value → Heap → Prop) : F51 p_f H K = FnW Try.prog tb51 51 [.pointer p_f] H K := by kernel_rfl
theorem F51_is : isFnB Try.prog 51 = true := by kernel_rfl
theorem F51_ok (p_f : Option Addr) {H : Heap} {K : Value → Heap → Prop} (h : F51 p_f H K) : Fn 51 [.pointer p_f] H K :=
  FnH.of_W mixed F51_is (by kernel_rfl) (cast (F51_eq p_f H K) h)

/- stook/simfs.twin -/
def F52 (m_dir : Option Nat) (H : Heap) (K : Value → Heap → Prop) : Prop :=
  Rv (Rd Try.prog (Builtin.len_ #[70] 3 #[.map m_dir]) H) fun w7 => RtI .i64 w7 fun i7 => New H (.map ⟨[]⟩ 0) fun nb H => Smk Try.prog (Instr.range 70 (.map
    m_dir)) H fun v H => ∃ i_t10 : Addr, v = .pointer (some i_t10) ∧ (Lp (fun (I : Heap → Prop) (_ : Heap → Nat) => I  H) (fun I M => ∀ _ : Fr, ∀ H0 : Heap, I H0 →
    At H0 fun H => NextK Try.prog (Instr.next (.pointer (some i_t10)) false 0) H (fun H => K (.map (some nb)) H) fun k11 x11 H => Rv (Rd Try.prog (Instr.entry
    (.pointer (some i_t10))) H) fun w13 => RtT 2 w13 fun ts => RtS (ts.getD 0 undef) fun s13 => RtI .i64 (ts.getD 1 undef) fun i13 => SmUk Try.prog
    (Instr.mapUpdate 70 (.map (some nb)) (.string s13) (.int .i64 i13)) H fun H => I  H ∧ M  H < M H0))
def tb52 : Tab := { ord := [], ent := [(13, 9, 3)], lp := [(3, [])], jn := [] }
theorem F52_eq (m_dir : Option Nat) (H : Heap) (K : Value → Heap → Prop) : F52 m_dir H K = FnW Try.prog tb52 52 [.map m_dir] H K := by kernel_rfl
theorem F52_is : isFnB Try.prog 52 = true := by kernel_rfl
theorem F52_ok (m_dir : Option Nat) {H : Heap} {K : Value → Heap → Prop} (h : F52 m_dir H K) : Fn 52 [.map m_dir] H K :=
  FnH.of_W mixed F52_is (by kernel_rfl) (cast (F52_eq m_dir H K) h)

/- (*stook/simfs.FS).Fail$1 -/
def F53 (i_many : Int) (z0 : Addr) (H : Heap) (K : Value → Heap → Prop) : Prop :=
  Ld (cellH H z0) fun w5 => RtL w5 fun a5 l5 c5 => BrB ((((l5 : Nat) : Int) : Int) == 0) (K (.int .i64 0) H) (Ld (cellH H z0) fun w8 => RtL w8 fun a8 l8 c8 => Idx
    a8 l8 0 1 fun e9 => Ld (cellH H e9) fun w10 => RtI .i64 w10 fun i10 => Ld (cellH H z0) fun w12 => RtL w12 fun a12 l12 c12 => Ck ((0 : Int) ≤ 1 ∧ (1 : Int) ≤
    ((l12 : Nat) : Int) ∧ (((l12 : Nat) : Int) : Int) ≤ ((c12 : Nat) : Int) ∧ (((c12 : Nat) : Int) : Int) ≤ ((c12 : Nat) : Int)) (StV H z0 1 [.slice (slA a12 1
    ((c12 : Nat) : Int) 1) (slN 1 ((l12 : Nat) : Int)) (slN 1 ((c12 : Nat) : Int))] fun H => Ck ((IntKind.wrap .u64 i_many : Int) ≠ 0) (K (.int .i64 (IntKind.wrap
    .i64 (Int.tmod (IntKind.wrap .u64 i10) (IntKind.wrap .u64 i_many)))) H)))
def tb53 : Tab := { ord := [], ent := [], lp := [], jn := [] }
theorem F53_eq (i_many : Int) (z0 : Addr) (H : Heap) (K : Value → Heap → Prop) : F53 i_many z0 H K = FnW Try.prog tb53 53 [.int .i64 i_many, .pointer (some z0)] H K := by kernel_rfl
theorem F53_is : isFnB Try.prog 53 = true := by kernel_rfl
theorem F53_ok (i_many : Int) (z0 : Addr) {H : Heap} {K : Value → Heap → Prop} (h : F53 i_many z0 H K) : Fn 53 [.int .i64 i_many, .pointer (some z0)] H K :=
  FnH.of_W mixed F53_is (by kernel_rfl) (cast (F53_eq i_many z0 H K) h)

/- (stook/simfs.move).do -/
def F54 (i_m : Int) (s_m : ByteArray) (s_m_1 : ByteArray) (i_m_1 : Int) (m_dir : Option Nat) (H : Heap) (K : Value → Heap → Prop) : Prop :=
  New H (.cells ⟨[.int .i64 i_m, .string s_m, .string s_m_1, .int .i64 i_m_1]⟩ 85) fun nb H => Ld (cellH H (Addr.add ⟨nb, 0, none⟩ 0)) fun w6 => RtI .i64 w6 fun i6
    => BrB ((i6 : Int) == 0) (Ld (cellH H (Addr.add ⟨nb, 0, none⟩ 2)) fun w11 => RtS w11 fun s11 => Ld (cellH H (Addr.add ⟨nb, 0, none⟩ 3)) fun w13 => RtI .i64 w13
    fun i13 => SmUk Try.prog (Instr.mapUpdate 70 (.map m_dir) (.string s11) (.int .i64 i13)) H fun H => K (.tuple ⟨[]⟩) H) (BrB ((i6 : Int) == 1) (Ld (cellH H
    (Addr.add ⟨nb, 0, none⟩ 1)) fun w18 => RtS w18 fun s18 => Rv (Rd Try.prog (Instr.lookup 70 (.map m_dir) (.string s18) false) H) fun w19 => RtI .i64 w19 fun i19
    => Ld (cellH H (Addr.add ⟨nb, 0, none⟩ 1)) fun w22 => RtS w22 fun s22 => Smk Try.prog (Builtin.delete_ #[70, 9] 0 ⟨[.map m_dir, .string s22]⟩) H fun v H => Rt0
    v (Ld (cellH H (Addr.add ⟨nb, 0, none⟩ 2)) fun w25 => RtS w25 fun s25 => SmUk Try.prog (Instr.mapUpdate 70 (.map m_dir) (.string s25) (.int .i64 i19)) H fun H
    => K (.tuple ⟨[]⟩) H)) (BrB ((i6 : Int) == 2) (Ld (cellH H (Addr.add ⟨nb, 0, none⟩ 1)) fun w31 => RtS w31 fun s31 => Smk Try.prog (Builtin.delete_ #[70, 9] 0
    ⟨[.map m_dir, .string s31]⟩) H fun v H => Rt0 v (K (.tuple ⟨[]⟩) H)) (K (.tuple ⟨[]⟩) H)))
def tb54 : Tab := { ord := [], ent := [], lp := [], jn := [] }
theorem F54_eq (i_m : Int) (s_m : ByteArray) (s_m_1 : ByteArray) (i_m_1 : Int) (m_dir : Option Nat) (H : Heap) (K : Value → Heap → Prop) : F54 i_m s_m s_m_1 i_m_1 m_dir H K = FnW Try.prog tb54 54 [.agg ⟨[.int .i64 i_m, .string s_m, .string s_m_1, .int .i64 i_m_1]⟩, .map m_dir] H K := by kernel_rfl
theorem F54_is : isFnB Try.prog 54 = true := by kernel_rfl
theorem F54_ok (i_m : Int) (s_m : ByteArray) (s_m_1 : ByteArray) (i_m_1 : Int) (m_dir : Option Nat) {H : Heap} {K : Value → Heap → Prop} (h : F54 i_m s_m s_m_1 i_m_1 m_dir H K) : Fn 54 [.agg ⟨[.int .i64 i_m, .string s_m, .string s_m_1, .int .i64 i_m_1]⟩, .map m_dir] H K :=
  FnH.of_W mixed F54_is (by kernel_rfl) (cast (F54_eq i_m s_m s_m_1 i_m_1 m_dir H K) h)

/- stook/simfs.names -/
def F55 (m_dir : Option Nat) (H : Heap) (K : Value → Heap → Prop) : Prop :=
  Smk Try.prog (Instr.range 70 (.map m_dir)) H fun v H => ∃ i_t6 : Addr, v = .pointer (some i_t6) ∧ (Lp (fun (I : Option Addr → Nat → Nat → Heap → Prop) (_ :
    Option Addr → Nat → Nat → Heap → Nat) => I none 0 0 H) (fun I M => ∀ _ : Fr, ∀ a_out : Option Addr, ∀ l_out : Nat, ∀ c_out : Nat, ∀ H0 : Heap, I a_out l_out
    c_out H0 → At H0 fun H => NextK Try.prog (Instr.next (.pointer (some i_t6)) false 0) H (fun H => Fn 82 [.slice a_out l_out c_out] H fun v H => Rt0 v (K (.slice
    a_out l_out c_out) H)) fun k7 x7 H => Rv (Rd Try.prog (Instr.entry (.pointer (some i_t6))) H) fun w9 => RtT 2 w9 fun ts => RtS (ts.getD 0 undef) fun s9 => Smk
    Try.prog (Instr.buildSlice 43 1 ⟨[(0, .string s9)]⟩) H fun v H => RtL v fun a13 l13 c13 => Smk Try.prog (Builtin.append_ #[43, 43] 43 ⟨[.slice a_out l_out
    c_out, .slice a13 l13 c13]⟩) H fun v H => RtL v fun a14 l14 c14 => I a14 l14 c14 H ∧ M a14 l14 c14 H < M a_out l_out c_out H0))
def tb55 : Tab := { ord := [], ent := [(9, 9, 0)], lp := [(3, [(3, .one (.sl))])], jn := [] }
theorem F55_eq (m_dir : Option Nat) (H : Heap) (K : Value → Heap → Prop) : F55 m_dir H K = FnW Try.prog tb55 55 [.map m_dir] H K := by kernel_rfl
theorem F55_is : isFnB Try.prog 55 = true := by kernel_rfl
theorem F55_ok (m_dir : Option Nat) {H : Heap} {K : Value → Heap → Prop} (h : F55 m_dir H K) : Fn 55 [.map m_dir] H K :=
  FnH.of_W mixed F55_is (by kernel_rfl) (cast (F55_eq m_dir H K) h)

/- (*stook/simfs.file).left -/
def F56 (p_x : Option Addr) (v_take : Value) (H : Heap) (K : Value → Heap → Prop) : Prop :=
  NilC p_x fun q13 => Ld (cellH H (Addr.add q13 2)) fun w15 => RtL w15 fun a15 l15 c15 => CallK Try.prog v_take ⟨[.int .i64 (IntKind.wrap .i64 (((l15 : Nat) : Int)
    + 1))]⟩ H fun v H => RtI .i64 v fun i18 => NilC p_x fun q20 => Ld (cellH H (Addr.add q20 0)) fun w22 => RtL w22 fun a22 l22 c22 => Smk Try.prog
    (Builtin.append_ #[22, 22] 22 ⟨[.slice none 0 0, .slice a22 l22 c22]⟩) H fun v H => RtL v fun a23 l23 c23 => NilC p_x fun q25 => Ld (cellH H (Addr.add q25 2))
    fun w27 => RtL w27 fun a27 l27 c27 => Ck ((0 : Int) ≤ 0 ∧ (0 : Int) ≤ i18 ∧ (i18 : Int) ≤ ((c27 : Nat) : Int) ∧ (((c27 : Nat) : Int) : Int) ≤ ((c27 : Nat) :
    Int)) (Lp (fun (I : Option Addr → Nat → Nat → Int → Heap → Prop) (_ : Option Addr → Nat → Nat → Int → Heap → Nat) => I a23 l23 c23 0 H) (fun I M => ∀ _ : Fr, ∀
    a_b : Option Addr, ∀ l_b : Nat, ∀ c_b : Nat, ∀ i31 : Int, ∀ H0 : Heap, I a_b l_b c_b i31 H0 → At H0 fun H => BrB (decide ((i31 : Int) < ((slN 0 i18 : Nat) :
    Int))) (Idx (slA a27 0 ((c27 : Nat) : Int) 3) (slN 0 i18) i31 3 fun e33 => Ld (rowV H e33 3) fun w34 => RtA 3 w34 fun ws => RtB (ws.getD 0 undef) fun b34 =>
    RtI .i64 (ws.getD 1 undef) fun i34 => RtL (ws.getD 2 undef) fun a34 l34 c34 => New H (.cells ⟨[.bool false, .int .i64 0, .slice none 0 0]⟩ 90) fun nb H => StV
    H ⟨nb, 0, none⟩ 3 [.bool b34, .int .i64 i34, .slice a34 l34 c34] fun H => Ld (rowV H ⟨nb, 0, none⟩ 3) fun w35 => RtA 3 w35 fun ws_1 => RtB (ws_1.getD 0 undef)
    fun b35 => RtI .i64 (ws_1.getD 1 undef) fun i35 => RtL (ws_1.getD 2 undef) fun a35 l35 c35 => Fn 81 [.agg ⟨[.bool b35, .int .i64 i35, .slice a35 l35 c35]⟩,
    .slice a_b l_b c_b] H fun v H => RtL v fun a37 l37 c37 => I a37 l37 c37 (IntKind.wrap .i64 (i31 + 1)) H ∧ M a37 l37 c37 (IntKind.wrap .i64 (i31 + 1)) H < M a_b
    l_b c_b i31 H0) (NilC p_x fun q41 => Ld (cellH H (Addr.add q41 2)) fun w43 => RtL w43 fun a43 l43 c43 => BrB ((i18 : Int) == ((l43 : Nat) : Int)) (K (.slice
    a_b l_b c_b) H) (NilC p_x fun q48 => Ld (cellH H (Addr.add q48 2)) fun w50 => RtL w50 fun a50 l50 c50 => Idx a50 l50 i18 3 fun e52 => Ld (cellH H (Addr.add e52
    0)) fun w54 => RtB w54 fun b54 => BrB b54 (K (.slice a_b l_b c_b) H) (NilC p_x fun q58 => Ld (cellH H (Addr.add q58 2)) fun w60 => RtL w60 fun a60 l60 c60 =>
    Idx a60 l60 i18 3 fun e62 => Ld (rowV H e62 3) fun w63 => RtA 3 w63 fun ws_2 => RtB (ws_2.getD 0 undef) fun b63 => RtI .i64 (ws_2.getD 1 undef) fun i63 => RtL
    (ws_2.getD 2 undef) fun a63 l63 c63 => New H (.cells ⟨[.bool false, .int .i64 0, .slice none 0 0]⟩ 90) fun nb_1 H => StV H ⟨nb_1, 0, none⟩ 3 [.bool b63, .int
    .i64 i63, .slice a63 l63 c63] fun H => Ld (cellH H (Addr.add ⟨nb_1, 0, none⟩ 1)) fun w65 => RtI .i64 w65 fun i65 => Ld (cellH H (Addr.add ⟨nb_1, 0, none⟩ 2))
    fun w68 => RtL w68 fun a68 l68 c68 => CallK Try.prog v_take ⟨[.int .i64 (IntKind.wrap .i64 (((l68 : Nat) : Int) + 1))]⟩ H fun v H => RtI .i64 v fun i71 => Ck
    (cellH H (Addr.add ⟨nb_1, 0, none⟩ 1) = some w65) (Jn (fun J : Int → Heap → Prop => ∀ _ : Fr, ∀ i_end : Int, ∀ H : Heap, J i_end H → Jn (fun J_1 : Option Addr
    → Nat → Nat → Heap → Prop => ∀ _ : Fr, ∀ a_b_1 : Option Addr, ∀ l_b_1 : Nat, ∀ c_b_1 : Nat, ∀ H : Heap, J_1 a_b_1 l_b_1 c_b_1 H → K (.slice a_b_1 l_b_1 c_b_1)
    H) (fun J_1 => Ld (cellH H (Addr.add ⟨nb_1, 0, none⟩ 1)) fun w83 => RtI .i64 w83 fun i83 => BrB (decide ((i_end : Int) > i83)) (Ld (cellH H (Addr.add ⟨nb_1, 0,
    none⟩ 1)) fun w86 => RtI .i64 w86 fun i86 => Ld (cellH H (Addr.add ⟨nb_1, 0, none⟩ 2)) fun w88 => RtL w88 fun a88 l88 c88 => Ld (cellH H (Addr.add ⟨nb_1, 0,
    none⟩ 1)) fun w91 => RtI .i64 w91 fun i91 => Ld (cellH H (Addr.add ⟨nb_1, 0, none⟩ 1)) fun w95 => RtI .i64 w95 fun i95 => Ck ((0 : Int) ≤ 0 ∧ (0 : Int) ≤
    IntKind.wrap .i64 (i_end - i91) ∧ (IntKind.wrap .i64 (i_end - i91) : Int) ≤ IntKind.wrap .i64 (i_end - i95) ∧ (IntKind.wrap .i64 (i_end - i95) : Int) ≤ ((c88 :
    Nat) : Int)) (Fn 81 [.agg ⟨[.bool false, .int .i64 i86, .slice (slA a88 0 (IntKind.wrap .i64 (i_end - i95)) 1) (slN 0 (IntKind.wrap .i64 (i_end - i91))) (slN 0
    (IntKind.wrap .i64 (i_end - i95)))]⟩, .slice a_b l_b c_b] H fun v H => RtL v fun a100 l100 c100 => J_1 a100 l100 c100 H)) (J_1 a_b l_b c_b H))) (fun J => BrB
    (decide ((IntKind.wrap .i64 (i65 + i71) : Int) < ((l_b : Nat) : Int))) (Ck ((512 : Int) ≠ 0) (J (IntKind.wrap .i64 ((IntKind.wrap .i64 (i65 + i71)) - (Int.tmod
    (IntKind.wrap .i64 (i65 + i71)) 512))) H)) (J (IntKind.wrap .i64 (i65 + i71)) H))))))))
def tb56 : Tab := { ord := [(11, [0, 1, 2, 3, 4, 5, 6, 7, 8, 9]), (15, [0, 1, 2, 3, 4, 5, 6, 7, 8, 9, 10, 11, 12, 13, 14, 15, 16])], ent := [], lp := [(4, [(6, .one (.sl)), (31, .one (.int .i64))])], jn := [(12, [(10, .one (.int .i64))]), (14, [(6, .one (.sl))])] }
theorem F56_eq (p_x : Option Addr) (v_take : Value) (H : Heap) (K : Value → Heap → Prop) : F56 p_x v_take H K = FnW Try.prog tb56 56 [.pointer p_x, v_take] H K := by kernel_rfl
theorem F56_is : isFnB Try.prog 56 = true := by kernel_rfl
theorem F56_ok (p_x : Option Addr) (v_take : Value) {H : Heap} {K : Value → Heap → Prop} (h : F56 p_x v_take H K) : Fn 56 [.pointer p_x, v_take] H K :=
  FnH.of_W mixed F56_is (by kernel_rfl) (cast (F56_eq p_x v_take H K) h)

/- (*stook/simfs.FS).count -/
def F57 (p_f : Option Addr) (H : Heap) (K : Value → Heap → Prop) : Prop :=
  NilC p_f fun q5 => StV H (Addr.add q5 2) 1 [.int .i64 0] fun H => NilC p_f fun q8 => Ld (cellH H (Addr.add q8 6)) fun w10 => RtM w10 fun m10 => Smk Try.prog
    (Instr.range 70 (.map m10)) H fun v H => ∃ i_t11 : Addr, v = .pointer (some i_t11) ∧ (Lp (fun (I : Heap → Prop) (_ : Heap → Nat) => I  H) (fun I M => ∀ _ : Fr,
    ∀ H0 : Heap, I H0 → At H0 fun H => NextK Try.prog (Instr.next (.pointer (some i_t11)) false 0) H (fun H => K (.tuple ⟨[]⟩) H) fun k12 x12 H => Rv (Rd Try.prog
    (Instr.entry (.pointer (some i_t11))) H) fun w14 => RtT 2 w14 fun ts => RtI .i64 (ts.getD 1 undef) fun i14 => NilC p_f fun q17 => Ld (cellH H (Addr.add q17 2))
    fun w19 => RtI .i64 w19 fun i19 => NilC p_f fun q21 => Ld (cellH H (Addr.add q21 3)) fun w23 => RtM w23 fun m23 => Rv (Rd Try.prog (Instr.lookup 69 (.map m23)
    (.int .i64 i14) false) H) fun w25 => RtP w25 fun p25 => NilC p25 fun q26 => Ld (cellH H (Addr.add q26 1)) fun w28 => RtL w28 fun a28 l28 c28 => NilC p_f fun
    q31 => StV H (Addr.add q31 2) 1 [.int .i64 (IntKind.wrap .i64 (i19 + ((l28 : Nat) : Int)))] fun H => I  H ∧ M  H < M H0))
def tb57 : Tab := { ord := [(4, [0, 1, 2, 3, 4, 5, 6, 7, 8, 9, 10, 11, 12, 13, 14, 15, 16, 17])], ent := [(14, 0, 3)], lp := [(2, [])], jn := [] }
theorem F57_eq (p_f : Option Addr) (H : Heap) (K : Value → Heap → Prop) : F57 p_f H K = FnW Try.prog tb57 57 [.pointer p_f] H K := by kernel_rfl
theorem F57_is : isFnB Try.prog 57 = true := by kernel_rfl
theorem F57_ok (p_f : Option Addr) {H : Heap} {K : Value → Heap → Prop} (h : F57 p_f H K) : Fn 57 [.pointer p_f] H K :=
  FnH.of_W mixed F57_is (by kernel_rfl) (cast (F57_eq p_f H K) h)

/- (*stook/simfs.FS).Cut -/
def F58 (p_f : Option Addr) (s_name : ByteArray) (i_size : Int) (H : Heap) (K : Value → Heap → Prop) : Prop :=
  Fn 49 [.pointer p_f, .string s_name] H fun v H => RtT 2 v fun ts => RtP (ts.getD 0 undef) fun p12 => RtI .i64 (ts.getD 1 undef) fun i12 => BrB ((i12 : Int) != 0)
    (K (.int .i64 i12) H) (BrB (decide ((i_size : Int) < 0)) (K (.int .i64 2) H) (NilC p12 fun q23 => Ld (cellH H (Addr.add q23 1)) fun w25 => RtL w25 fun a25 l25
    c25 => BrB (decide ((i_size : Int) > ((l25 : Nat) : Int))) (K (.int .i64 2) H) (Fn 50 [.pointer p_f, .pointer p12, .agg ⟨[.bool true, .int .i64 i_size, .slice
    none 0 0]⟩] H fun v H => RtI .i64 v fun i33 => K (.int .i64 i33) H)))
def tb58 : Tab := { ord := [], ent := [], lp := [], jn := [] }
theorem F58_eq (p_f : Option Addr) (s_name : ByteArray) (i_size : Int) (H : Heap) (K : Value → Heap → Prop) : F58 p_f s_name i_size H K = FnW Try.prog tb58 58 [.pointer p_f, .string s_name, .int .i64 i_size] H K := by kernel_rfl
theorem F58_is : isFnB Try.prog 58 = true := by kernel_rfl
theorem F58_ok (p_f : Option Addr) (s_name : ByteArray) (i_size : Int) {H : Heap} {K : Value → Heap → Prop} (h : F58 p_f s_name i_size H K) : Fn 58 [.pointer p_f, .string s_name, .int .i64 i_size] H K :=
  FnH.of_W mixed F58_is (by kernel_rfl) (cast (F58_eq p_f s_name i_size H K) h)

/- (*stook/simfs.FS).Remove -/
def F59 (p_f : Option Addr) (s_name : ByteArray) (H : Heap) (K : Value → Heap → Prop) : Prop :=
  Fn 49 [.pointer p_f, .string s_name] H fun v H => RtT 2 v fun ts => RtP (ts.getD 0 undef) fun p10 => RtI .i64 (ts.getD 1 undef) fun i10 => BrB ((i10 : Int) != 0)
    (K (.int .i64 i10) H) (Fn 48 [.pointer p_f, .agg ⟨[.int .i64 2, .string s_name, .string (str []), .int .i64 0]⟩] H fun v H => RtI .i64 v fun i19 => K (.int
    .i64 i19) H)
def tb59 : Tab := { ord := [], ent := [], lp := [], jn := [] }
theorem F59_eq (p_f : Option Addr) (s_name : ByteArray) (H : Heap) (K : Value → Heap → Prop) : F59 p_f s_name H K = FnW Try.prog tb59 59 [.pointer p_f, .string s_name] H K := by kernel_rfl
theorem F59_is : isFnB Try.prog 59 = true := by kernel_rfl
theorem F59_ok (p_f : Option Addr) (s_name : ByteArray) {H : Heap} {K : Value → Heap → Prop} (h : F59 p_f s_name H K) : Fn 59 [.pointer p_f, .string s_name] H K :=
  FnH.of_W mixed F59_is (by kernel_rfl) (cast (F59_eq p_f s_name H K) h)

/- (*stook/stookref14.FS).Create -/
def F60 (p_f : Option Addr) (s_s : ByteArray) (H : Heap) (K : Value → Heap → Prop) : Prop :=
  NilC p_f fun q6 => Ld (cellH H (Addr.add q6 7)) fun w8 => RtB w8 fun b8 => BrB b8 (K (.int .i64 13) H) (Fn 83 [.string s_s] H fun v H => RtB v fun b10 => BrB
    (!b10) (K (.int .i64 2) H) (NilC p_f fun q13 => Ld (cellH H (Addr.add q13 4)) fun w15 => RtL w15 fun a15 l15 c15 => Fn 84 [.slice a15 l15 c15, .string s_s] H
    fun v H => RtI .i64 v fun i17 => BrB (decide ((i17 : Int) ≥ 0)) (K (.int .i64 8) H) (NilC p_f fun q20 => Ld (cellH H (Addr.add q20 4)) fun w22 => RtL w22 fun
    a22 l22 c22 => BrB (decide ((((l22 : Nat) : Int) : Int) ≥ 64)) (K (.int .i64 3) H) (NilC p_f fun q27 => Ld (cellH H (Addr.add q27 1)) fun w29 => RtL w29 fun
    a29 l29 c29 => Smk Try.prog (Instr.buildSlice 98 1 ⟨[(0, .agg ⟨[.slice none 0 0, .slice none 0 0]⟩)]⟩) H fun v H => RtL v fun a31 l31 c31 => Smk Try.prog
    (Builtin.append_ #[98, 98] 98 ⟨[.slice a29 l29 c29, .slice a31 l31 c31]⟩) H fun v H => RtL v fun a32 l32 c32 => NilC p_f fun q33 => StV H (Addr.add q33 1) 1
    [.slice a32 l32 c32] fun H => NilC p_f fun q37 => Ld (cellH H (Addr.add q37 4)) fun w39 => RtL w39 fun a39 l39 c39 => NilC p_f fun q42 => Ld (cellH H (Addr.add
    q42 1)) fun w44 => RtL w44 fun a44 l44 c44 => Fn 86 [.slice a39 l39 c39, .string s_s, .int .i64 (IntKind.wrap .i64 (((l44 : Nat) : Int) - 1))] H fun v H => RtL
    v fun a47 l47 c47 => Fn 85 [.pointer p_f, .slice a47 l47 c47] H fun v H => RtI .i64 v fun i48 => K (.int .i64 i48) H))))
def tb60 : Tab := { ord := [(10, [0, 1, 2, 3, 4, 5, 6, 7, 8, 9, 10, 11, 12, 13, 14])], ent := [], lp := [], jn := [] }
theorem F60_eq (p_f : Option Addr) (s_s : ByteArray) (H : Heap) (K : Value → Heap → Prop) : F60 p_f s_s H K = FnW Try.prog tb60 60 [.pointer p_f, .string s_s] H K := by kernel_rfl
theorem F60_is : isFnB Try.prog 60 = true := by kernel_rfl
theorem F60_ok (p_f : Option Addr) (s_s : ByteArray) {H : Heap} {K : Value → Heap → Prop} (h : F60 p_f s_s H K) : Fn 60 [.pointer p_f, .string s_s] H K :=
  FnH.of_W mixed F60_is (by kernel_rfl) (cast (F60_eq p_f s_s H K) h)

/- (*stook/stookref14.FS).Append -/
def F61 (p_f : Option Addr) (s_s : ByteArray) (a_b : Option Addr) (l_b : Nat) (c_b : Nat) (H : Heap) (K : Value → Heap → Prop) : Prop :=
  Fn 87 [.pointer p_f, .string s_s] H fun v H => RtT 2 v fun ts => RtI .i64 (ts.getD 0 undef) fun i12 => RtI .i64 (ts.getD 1 undef) fun i12_1 => BrB ((i12_1 : Int)
    != 0) (K (.int .i64 i12_1) H) (BrB (decide ((((l_b : Nat) : Int) : Int) > 0)) (NilC p_f fun q25 => Ld (cellH H (Addr.add q25 0)) fun w27 => RtI .i64 w27 fun
    i27 => Fn 70 [.pointer p_f] H fun v H => RtI .i64 v fun i29 => Ck (cellH H (Addr.add q25 0) = some w27) (BrB (decide ((((l_b : Nat) : Int) : Int) >
    (IntKind.wrap .i64 (i27 - i29)))) (K (.int .i64 9) H) (NilC p_f fun q36 => Ld (cellH H (Addr.add q36 1)) fun w38 => RtL w38 fun a38 l38 c38 => Idx a38 l38 i12
    2 fun e40 => Fn 89 [.pointer (some e40)] H fun v H => RtL v fun a41 l41 c41 => Fn 90 [.slice a_b l_b c_b, .agg ⟨[.bool false, .int .i64 0, .slice none 0 0]⟩] H
    fun v H => RtL v fun a45 l45 c45 => Fn 88 [.pointer p_f, .int .i64 i12, .agg ⟨[.bool false, .int .i64 ((l41 : Nat) : Int), .slice a45 l45 c45]⟩] H fun v H =>
    RtI .i64 v fun i47 => K (.int .i64 i47) H))) (NilC p_f fun q36_1 => Ld (cellH H (Addr.add q36_1 1)) fun w38_1 => RtL w38_1 fun a38_1 l38_1 c38_1 => Idx a38_1
    l38_1 i12 2 fun e40_1 => Fn 89 [.pointer (some e40_1)] H fun v H => RtL v fun a41_1 l41_1 c41_1 => Fn 90 [.slice a_b l_b c_b, .agg ⟨[.bool false, .int .i64 0,
    .slice none 0 0]⟩] H fun v H => RtL v fun a45_1 l45_1 c45_1 => Fn 88 [.pointer p_f, .int .i64 i12, .agg ⟨[.bool false, .int .i64 ((l41_1 : Nat) : Int), .slice
    a45_1 l45_1 c45_1]⟩] H fun v H => RtI .i64 v fun i47_1 => K (.int .i64 i47_1) H))
def tb61 : Tab := { ord := [(4, [0, 1, 2, 3, 4, 5, 6, 7, 8, 9, 10, 11, 12, 13, 14])], ent := [], lp := [], jn := [] }
theorem F61_eq (p_f : Option Addr) (s_s : ByteArray) (a_b : Option Addr) (l_b : Nat) (c_b : Nat) (H : Heap) (K : Value → Heap → Prop) : F61 p_f s_s a_b l_b c_b H K = FnW Try.prog tb61 61 [.pointer p_f, .string s_s, .slice a_b l_b c_b] H K := by kernel_rfl
theorem F61_is : isFnB Try.prog 61 = true := by kernel_rfl
theorem F61_ok (p_f : Option Addr) (s_s : ByteArray) (a_b : Option Addr) (l_b : Nat) (c_b : Nat) {H : Heap} {K : Value → Heap → Prop} (h : F61 p_f s_s a_b l_b c_b H K) : Fn 61 [.pointer p_f, .string s_s, .slice a_b l_b c_b] H K :=
  FnH.of_W mixed F61_is (by kernel_rfl) (cast (F61_eq p_f s_s a_b l_b c_b H K) h)

/- (*stook/stookref14.FS).Write -/
def F62 (p_f : Option Addr) (s_s : ByteArray) (i_at : Int) (a_b : Option Addr) (l_b : Nat) (c_b : Nat) (H : Heap) (K : Value → Heap → Prop) : Prop :=
  Fn 87 [.pointer p_f, .string s_s] H fun v H => RtT 2 v fun ts => RtI .i64 (ts.getD 0 undef) fun i16 => RtI .i64 (ts.getD 1 undef) fun i16_1 => BrB ((i16_1 : Int)
    != 0) (K (.int .i64 i16_1) H) (NilC p_f fun q23 => Ld (cellH H (Addr.add q23 1)) fun w25 => RtL w25 fun a25 l25 c25 => Idx a25 l25 i16 2 fun e27 => Fn 89
    [.pointer (some e27)] H fun v H => RtL v fun a28 l28 c28 => BrB (decide ((i_at : Int) < 0)) (K (.int .i64 2) H) (BrB (decide ((i_at : Int) > ((l28 : Nat) :
    Int))) (K (.int .i64 2) H) (BrB (decide ((IntKind.wrap .i64 (((l_b : Nat) : Int) - (IntKind.wrap .i64 (((l28 : Nat) : Int) - i_at))) : Int) > 0)) (NilC p_f fun
    q48 => Ld (cellH H (Addr.add q48 0)) fun w50 => RtI .i64 w50 fun i50 => Fn 70 [.pointer p_f] H fun v H => RtI .i64 v fun i52 => Ck (cellH H (Addr.add q48 0) =
    some w50) (BrB (decide ((IntKind.wrap .i64 (((l_b : Nat) : Int) - (IntKind.wrap .i64 (((l28 : Nat) : Int) - i_at))) : Int) > (IntKind.wrap .i64 (i50 - i52))))
    (K (.int .i64 9) H) (Fn 90 [.slice a_b l_b c_b, .agg ⟨[.bool false, .int .i64 0, .slice none 0 0]⟩] H fun v H => RtL v fun a61 l61 c61 => Fn 88 [.pointer p_f,
    .int .i64 i16, .agg ⟨[.bool false, .int .i64 i_at, .slice a61 l61 c61]⟩] H fun v H => RtI .i64 v fun i63 => K (.int .i64 i63) H))) (Fn 90 [.slice a_b l_b c_b,
    .agg ⟨[.bool false, .int .i64 0, .slice none 0 0]⟩] H fun v H => RtL v fun a61_1 l61_1 c61_1 => Fn 88 [.pointer p_f, .int .i64 i16, .agg ⟨[.bool false, .int
    .i64 i_at, .slice a61_1 l61_1 c61_1]⟩] H fun v H => RtI .i64 v fun i63_1 => K (.int .i64 i63_1) H))))
def tb62 : Tab := { ord := [(8, [0, 1, 2, 3, 4, 5, 6, 7, 8, 9, 10, 11, 12])], ent := [], lp := [], jn := [] }
theorem F62_eq (p_f : Option Addr) (s_s : ByteArray) (i_at : Int) (a_b : Option Addr) (l_b : Nat) (c_b : Nat) (H : Heap) (K : Value → Heap → Prop) : F62 p_f s_s i_at a_b l_b c_b H K = FnW Try.prog tb62 62 [.pointer p_f, .string s_s, .int .i64 i_at, .slice a_b l_b c_b] H K := by kernel_rfl
theorem F62_is : isFnB Try.prog 62 = true := by kernel_rfl
theorem F62_ok (p_f : Option Addr) (s_s : ByteArray) (i_at : Int) (a_b : Option Addr) (l_b : Nat) (c_b : Nat) {H : Heap} {K : Value → Heap → Prop} (h : F62 p_f s_s i_at a_b l_b c_b H K) : Fn 62 [.pointer p_f, .string s_s, .int .i64 i_at, .slice a_b l_b c_b] H K :=
  FnH.of_W mixed F62_is (by kernel_rfl) (cast (F62_eq p_f s_s i_at a_b l_b c_b H K) h)

/- (*stook/stookref14.FS).Cut -/
def F63 (p_f : Option Addr) (s_s : ByteArray) (i_size : Int) (H : Heap) (K : Value → Heap → Prop) : Prop :=
  Fn 87 [.pointer p_f, .string s_s] H fun v H => RtT 2 v fun ts => RtI .i64 (ts.getD 0 undef) fun i12 => RtI .i64 (ts.getD 1 undef) fun i12_1 => BrB ((i12_1 : Int)
    != 0) (K (.int .i64 i12_1) H) (BrB (decide ((i_size : Int) < 0)) (K (.int .i64 2) H) (NilC p_f fun q23 => Ld (cellH H (Addr.add q23 1)) fun w25 => RtL w25 fun
    a25 l25 c25 => Idx a25 l25 i12 2 fun e27 => Fn 89 [.pointer (some e27)] H fun v H => RtL v fun a28 l28 c28 => BrB (decide ((i_size : Int) > ((l28 : Nat) :
    Int))) (K (.int .i64 2) H) (Fn 88 [.pointer p_f, .int .i64 i12, .agg ⟨[.bool true, .int .i64 i_size, .slice none 0 0]⟩] H fun v H => RtI .i64 v fun i36 => K
    (.int .i64 i36) H)))
def tb63 : Tab := { ord := [], ent := [], lp := [], jn := [] }
theorem F63_eq (p_f : Option Addr) (s_s : ByteArray) (i_size : Int) (H : Heap) (K : Value → Heap → Prop) : F63 p_f s_s i_size H K = FnW Try.prog tb63 63 [.pointer p_f, .string s_s, .int .i64 i_size] H K := by kernel_rfl
theorem F63_is : isFnB Try.prog 63 = true := by kernel_rfl
theorem F63_ok (p_f : Option Addr) (s_s : ByteArray) (i_size : Int) {H : Heap} {K : Value → Heap → Prop} (h : F63 p_f s_s i_size H K) : Fn 63 [.pointer p_f, .string s_s, .int .i64 i_size] H K :=
  FnH.of_W mixed F63_is (by kernel_rfl) (cast (F63_eq p_f s_s i_size H K) h)

/- (*stook/stookref14.FS).Rename -/
def F64 (p_f : Option Addr) (s_from : ByteArray) (s_to : ByteArray) (H : Heap) (K : Value → Heap → Prop) : Prop :=
  Fn 87 [.pointer p_f, .string s_from] H fun v H => RtT 2 v fun ts => RtI .i64 (ts.getD 0 undef) fun i12 => RtI .i64 (ts.getD 1 undef) fun i12_1 => BrB ((i12_1 :
    Int) != 0) (K (.int .i64 i12_1) H) (Fn 83 [.string s_to] H fun v H => RtB v fun b19 => BrB (!b19) (K (.int .i64 2) H) (NilC p_f fun q23 => Ld (cellH H
    (Addr.add q23 4)) fun w25 => RtL w25 fun a25 l25 c25 => Fn 91 [.slice a25 l25 c25, .string s_from] H fun v H => RtL v fun a27 l27 c27 => Fn 91 [.slice a27 l27
    c27, .string s_to] H fun v H => RtL v fun a29 l29 c29 => Fn 86 [.slice a29 l29 c29, .string s_to, .int .i64 i12] H fun v H => RtL v fun a32 l32 c32 => Fn 85
    [.pointer p_f, .slice a32 l32 c32] H fun v H => RtI .i64 v fun i33 => K (.int .i64 i33) H))
def tb64 : Tab := { ord := [], ent := [], lp := [], jn := [] }
theorem F64_eq (p_f : Option Addr) (s_from : ByteArray) (s_to : ByteArray) (H : Heap) (K : Value → Heap → Prop) : F64 p_f s_from s_to H K = FnW Try.prog tb64 64 [.pointer p_f, .string s_from, .string s_to] H K := by kernel_rfl
theorem F64_is : isFnB Try.prog 64 = true := by kernel_rfl
theorem F64_ok (p_f : Option Addr) (s_from : ByteArray) (s_to : ByteArray) {H : Heap} {K : Value → Heap → Prop} (h : F64 p_f s_from s_to H K) : Fn 64 [.pointer p_f, .string s_from, .string s_to] H K :=
  FnH.of_W mixed F64_is (by kernel_rfl) (cast (F64_eq p_f s_from s_to H K) h)

/- (*stook/stookref14.FS).Remove -/
def F65 (p_f : Option Addr) (s_s : ByteArray) (H : Heap) (K : Value → Heap → Prop) : Prop :=
  Fn 87 [.pointer p_f, .string s_s] H fun v H => RtT 2 v fun ts => RtI .i64 (ts.getD 0 undef) fun i10 => RtI .i64 (ts.getD 1 undef) fun i10_1 => BrB ((i10_1 : Int)
    != 0) (K (.int .i64 i10_1) H) (NilC p_f fun q18 => Ld (cellH H (Addr.add q18 4)) fun w20 => RtL w20 fun a20 l20 c20 => Fn 91 [.slice a20 l20 c20, .string s_s]
    H fun v H => RtL v fun a22 l22 c22 => Fn 85 [.pointer p_f, .slice a22 l22 c22] H fun v H => RtI .i64 v fun i23 => K (.int .i64 i23) H)
def tb65 : Tab := { ord := [], ent := [], lp := [], jn := [] }
theorem F65_eq (p_f : Option Addr) (s_s : ByteArray) (H : Heap) (K : Value → Heap → Prop) : F65 p_f s_s H K = FnW Try.prog tb65 65 [.pointer p_f, .string s_s] H K := by kernel_rfl
theorem F65_is : isFnB Try.prog 65 = true := by kernel_rfl
theorem F65_ok (p_f : Option Addr) (s_s : ByteArray) {H : Heap} {K : Value → Heap → Prop} (h : F65 p_f s_s H K) : Fn 65 [.pointer p_f, .string s_s] H K :=
  FnH.of_W mixed F65_is (by kernel_rfl) (cast (F65_eq p_f s_s H K) h)

/- (*stook/stookref14.FS).Sync -/
def F66 (p_f : Option Addr) (s_s : ByteArray) (H : Heap) (K : Value → Heap → Prop) : Prop :=
  Fn 87 [.pointer p_f, .string s_s] H fun v H => RtT 2 v fun ts => RtI .i64 (ts.getD 0 undef) fun i10 => RtI .i64 (ts.getD 1 undef) fun i10_1 => BrB ((i10_1 : Int)
    != 0) (K (.int .i64 i10_1) H) (Fn 92 [.pointer p_f] H fun v H => RtI .i64 v fun i17 => Jn (fun J : Heap → Prop => ∀ _ : Fr, ∀ H : Heap, J H → K (.int .i64 i17)
    H) (fun J => BrB ((i17 : Int) == 0) (NilC p_f fun q21 => Ld (cellH H (Addr.add q21 1)) fun w23 => RtL w23 fun a23 l23 c23 => NilC p_f fun q26 => Ld (cellH H
    (Addr.add q26 1)) fun w28 => RtL w28 fun a28 l28 c28 => Idx a28 l28 i10 2 fun e30 => Fn 89 [.pointer (some e30)] H fun v H => RtL v fun a31 l31 c31 => Ck
    (cellH H (Addr.add q21 1) = some w23) (Idx a23 l23 i10 2 fun e33 => StV H e33 2 [.slice a31 l31 c31, .slice none 0 0] fun H => J  H)) (J  H)))
def tb66 : Tab := { ord := [(6, [0, 1, 2, 3, 4, 5, 6, 7, 8, 9, 10, 11, 12, 13, 14])], ent := [], lp := [], jn := [(5, [])] }
theorem F66_eq (p_f : Option Addr) (s_s : ByteArray) (H : Heap) (K : Value → Heap → Prop) : F66 p_f s_s H K = FnW Try.prog tb66 66 [.pointer p_f, .string s_s] H K := by kernel_rfl
theorem F66_is : isFnB Try.prog 66 = true := by kernel_rfl
theorem F66_ok (p_f : Option Addr) (s_s : ByteArray) {H : Heap} {K : Value → Heap → Prop} (h : F66 p_f s_s H K) : Fn 66 [.pointer p_f, .string s_s] H K :=
  FnH.of_W mixed F66_is (by kernel_rfl) (cast (F66_eq p_f s_s H K) h)

/- (*stook/stookref14.FS).SyncDir -/
def F67 (p_f : Option Addr) (H : Heap) (K : Value → Heap → Prop) : Prop :=
  NilC p_f fun q5 => Ld (cellH H (Addr.add q5 7)) fun w7 => RtB w7 fun b7 => BrB b7 (K (.int .i64 13) H) (Fn 92 [.pointer p_f] H fun v H => RtI .i64 v fun i9 => Jn
    (fun J : Heap → Prop => ∀ _ : Fr, ∀ H : Heap, J H → K (.int .i64 i9) H) (fun J => BrB ((i9 : Int) == 0) (NilC p_f fun q14 => Ld (cellH H (Addr.add q14 4)) fun
    w16 => RtL w16 fun a16 l16 c16 => NilC p_f fun q17 => StV H (Addr.add q17 2) 1 [.slice a16 l16 c16] fun H => NilC p_f fun q20 => StV H (Addr.add q20 3) 1
    [.slice none 0 0] fun H => J  H) (J  H)))
def tb67 : Tab := { ord := [], ent := [], lp := [], jn := [(4, [])] }
theorem F67_eq (p_f : Option Addr) (H : Heap) (K : Value → Heap → Prop) : F67 p_f H K = FnW Try.prog tb67 67 [.pointer p_f] H K := by kernel_rfl
theorem F67_is : isFnB Try.prog 67 = true := by kernel_rfl
theorem F67_ok (p_f : Option Addr) {H : Heap} {K : Value → Heap → Prop} (h : F67 p_f H K) : Fn 67 [.pointer p_f] H K :=
  FnH.of_W mixed F67_is (by kernel_rfl) (cast (F67_eq p_f H K) h)

/- (*stook/stookref14.FS).Arm -/
def F68 (p_f : Option Addr) (i_n : Int) (H : Heap) (K : Value → Heap → Prop) : Prop :=
  NilC p_f fun q6 => Ld (cellH H (Addr.add q6 7)) fun w8 => RtB w8 fun b8 => BrB b8 (K (.int .i64 13) H) (BrB (decide ((i_n : Int) < 0)) (K (.int .i64 2) H) (NilC
    p_f fun q13 => StV H (Addr.add q13 6) 1 [.int .i64 i_n] fun H => K (.int .i64 0) H))
def tb68 : Tab := { ord := [], ent := [], lp := [], jn := [] }
theorem F68_eq (p_f : Option Addr) (i_n : Int) (H : Heap) (K : Value → Heap → Prop) : F68 p_f i_n H K = FnW Try.prog tb68 68 [.pointer p_f, .int .i64 i_n] H K := by kernel_rfl
theorem F68_is : isFnB Try.prog 68 = true := by kernel_rfl
theorem F68_ok (p_f : Option Addr) (i_n : Int) {H : Heap} {K : Value → Heap → Prop} (h : F68 p_f i_n H K) : Fn 68 [.pointer p_f, .int .i64 i_n] H K :=
  FnH.of_W mixed F68_is (by kernel_rfl) (cast (F68_eq p_f i_n H K) h)

/- (*stook/stookref14.FS).Names -/
def F69 (p_f : Option Addr) (H : Heap) (K : Value → Heap → Prop) : Prop :=
  Lp (fun (I : Option Addr → Nat → Nat → Int → Heap → Prop) (_ : Option Addr → Nat → Nat → Int → Heap → Nat) => I none 0 0 0 H) (fun I M => ∀ _ : Fr, ∀ a_out :
    Option Addr, ∀ l_out : Nat, ∀ c_out : Nat, ∀ i_i : Int, ∀ H0 : Heap, I a_out l_out c_out i_i H0 → At H0 fun H => NilC p_f fun q7 => Ld (cellH H (Addr.add q7
    4)) fun w9 => RtL w9 fun a9 l9 c9 => BrB (decide ((i_i : Int) < ((l9 : Nat) : Int))) (NilC p_f fun q14 => Ld (cellH H (Addr.add q14 7)) fun w16 => RtB w16 fun
    b16 => BrB (!b16) (NilC p_f fun q23 => Ld (cellH H (Addr.add q23 4)) fun w25 => RtL w25 fun a25 l25 c25 => Idx a25 l25 i_i 2 fun e27 => Ld (cellH H (Addr.add
    e27 0)) fun w29 => RtS w29 fun s29 => Smk Try.prog (Instr.buildSlice 43 1 ⟨[(0, .string s29)]⟩) H fun v H => RtL v fun a30 l30 c30 => Smk Try.prog
    (Builtin.append_ #[43, 43] 43 ⟨[.slice a_out l_out c_out, .slice a30 l30 c30]⟩) H fun v H => RtL v fun a31 l31 c31 => I a31 l31 c31 (IntKind.wrap .i64 (i_i +
    1)) H ∧ M a31 l31 c31 (IntKind.wrap .i64 (i_i + 1)) H < M a_out l_out c_out i_i H0) (K (.slice a_out l_out c_out) H)) (K (.slice a_out l_out c_out) H))
def tb69 : Tab := { ord := [], ent := [], lp := [(3, [(3, .one (.sl)), (4, .one (.int .i64))])], jn := [] }
theorem F69_eq (p_f : Option Addr) (H : Heap) (K : Value → Heap → Prop) : F69 p_f H K = FnW Try.prog tb69 69 [.pointer p_f] H K := by kernel_rfl
theorem F69_is : isFnB Try.prog 69 = true := by kernel_rfl
theorem F69_ok (p_f : Option Addr) {H : Heap} {K : Value → Heap → Prop} (h : F69 p_f H K) : Fn 69 [.pointer p_f] H K :=
  FnH.of_W mixed F69_is (by kernel_rfl) (cast (F69_eq p_f H K) h)

/- (*stook/stookref14.FS).Used -/
def F70 (p_f : Option Addr) (H : Heap) (K : Value → Heap → Prop) : Prop :=
  Lp (fun (I : Int → Int → Heap → Prop) (_ : Int → Int → Heap → Nat) => I 0 0 H) (fun I M => ∀ _ : Fr, ∀ i_n : Int, ∀ i_i : Int, ∀ H0 : Heap, I i_n i_i H0 → At H0
    fun H => NilC p_f fun q7 => Ld (cellH H (Addr.add q7 4)) fun w9 => RtL w9 fun a9 l9 c9 => BrB (decide ((i_i : Int) < ((l9 : Nat) : Int))) (NilC p_f fun q14 =>
    Ld (cellH H (Addr.add q14 7)) fun w16 => RtB w16 fun b16 => BrB (!b16) (NilC p_f fun q23 => Ld (cellH H (Addr.add q23 1)) fun w25 => RtL w25 fun a25 l25 c25 =>
    NilC p_f fun q27 => Ld (cellH H (Addr.add q27 4)) fun w29 => RtL w29 fun a29 l29 c29 => Idx a29 l29 i_i 2 fun e31 => Ld (cellH H (Addr.add e31 1)) fun w33 =>
    RtI .i64 w33 fun i33 => Idx a25 l25 i33 2 fun e34 => Fn 89 [.pointer (some e34)] H fun v H => RtL v fun a35 l35 c35 => I (IntKind.wrap .i64 (i_n + ((l35 : Nat)
    : Int))) (IntKind.wrap .i64 (i_i + 1)) H ∧ M (IntKind.wrap .i64 (i_n + ((l35 : Nat) : Int))) (IntKind.wrap .i64 (i_i + 1)) H < M i_n i_i H0) (K (.int .i64 i_n)
    H)) (K (.int .i64 i_n) H))
def tb70 : Tab := { ord := [(5, [0, 1, 2, 3, 4, 5, 6, 7, 8, 9, 10, 11, 12, 13, 14, 15, 16, 17])], ent := [], lp := [(3, [(3, .one (.int .i64)), (4, .one (.int .i64))])], jn := [] }
theorem F70_eq (p_f : Option Addr) (H : Heap) (K : Value → Heap → Prop) : F70 p_f H K = FnW Try.prog tb70 70 [.pointer p_f] H K := by kernel_rfl
theorem F70_is : isFnB Try.prog 70 = true := by kernel_rfl
theorem F70_ok (p_f : Option Addr) {H : Heap} {K : Value → Heap → Prop} (h : F70 p_f H K) : Fn 70 [.pointer p_f] H K :=
  FnH.of_W mixed F70_is (by kernel_rfl) (cast (F70_eq p_f H K) h)

/- (*stook/stookref14.FS).Room -/
def F71 (p_f : Option Addr) (H : Heap) (K : Value → Heap → Prop) : Prop :=
  NilC p_f fun q4 => Ld (cellH H (Addr.add q4 7)) fun w6 => RtB w6 fun b6 => BrB b6 (K (.int .i64 0) H) (NilC p_f fun q8 => Ld (cellH H (Addr.add q8 0)) fun w10 =>
    RtI .i64 w10 fun i10 => K (.int .i64 i10) H)
def tb71 : Tab := { ord := [], ent := [], lp := [], jn := [] }
theorem F71_eq (p_f : Option Addr) (H : Heap) (K : Value → Heap → Prop) : F71 p_f H K = FnW Try.prog tb71 71 [.pointer p_f] H K := by kernel_rfl
theorem F71_is : isFnB Try.prog 71 = true := by kernel_rfl
theorem F71_ok (p_f : Option Addr) {H : Heap} {K : Value → Heap → Prop} (h : F71 p_f H K) : Fn 71 [.pointer p_f] H K :=
  FnH.of_W mixed F71_is (by kernel_rfl) (cast (F71_eq p_f H K) h)

/- (*stook/stookref14.FS).Acts -/
def F72 (p_f : Option Addr) (H : Heap) (K : Value → Heap → Prop) : Prop :=
  NilC p_f fun q4 => Ld (cellH H (Addr.add q4 5)) fun w6 => RtI .i64 w6 fun i6 => K (.int .i64 i6) H
def tb72 : Tab := { ord := [], ent := [], lp := [], jn := [] }
theorem F72_eq (p_f : Option Addr) (H : Heap) (K : Value → Heap → Prop) : F72 p_f H K = FnW Try.prog tb72 72 [.pointer p_f] H K := by kernel_rfl
theorem F72_is : isFnB Try.prog 72 = true := by kernel_rfl
theorem F72_ok (p_f : Option Addr) {H : Heap} {K : Value → Heap → Prop} (h : F72 p_f H K) : Fn 72 [.pointer p_f] H K :=
  FnH.of_W mixed F72_is (by kernel_rfl) (cast (F72_eq p_f H K) h)

/- (*stook/stookref14.FS).Dead -/
def F73 (p_f : Option Addr) (H : Heap) (K : Value → Heap → Prop) : Prop :=
  NilC p_f fun q4 => Ld (cellH H (Addr.add q4 7)) fun w6 => RtB w6 fun b6 => K (.bool b6) H
def tb73 : Tab := { ord := [], ent := [], lp := [], jn := [] }
theorem F73_eq (p_f : Option Addr) (H : Heap) (K : Value → Heap → Prop) : F73 p_f H K = FnW Try.prog tb73 73 [.pointer p_f] H K := by kernel_rfl
theorem F73_is : isFnB Try.prog 73 = true := by kernel_rfl
theorem F73_ok (p_f : Option Addr) {H : Heap} {K : Value → Heap → Prop} (h : F73 p_f H K) : Fn 73 [.pointer p_f] H K :=
  FnH.of_W mixed F73_is (by kernel_rfl) (cast (F73_eq p_f H K) h)

/- (*stook/stookref14.FS).Read -/
def F74 (p_f : Option Addr) (s_s : ByteArray) (i_at : Int) (i_n : Int) (H : Heap) (K : Value → Heap → Prop) : Prop :=
  Fn 87 [.pointer p_f, .string s_s] H fun v H => RtT 2 v fun ts => RtI .i64 (ts.getD 0 undef) fun i17 => RtI .i64 (ts.getD 1 undef) fun i17_1 => BrB ((i17_1 : Int)
    != 0) (K (.tuple ⟨[.slice none 0 0, .int .i64 i17_1]⟩) H) (NilC p_f fun q24 => Ld (cellH H (Addr.add q24 1)) fun w26 => RtL w26 fun a26 l26 c26 => Idx a26 l26
    i17 2 fun e28 => Fn 89 [.pointer (some e28)] H fun v H => RtL v fun a29 l29 c29 => BrB (decide ((i_at : Int) < 0)) (K (.tuple ⟨[.slice none 0 0, .int .i64 2]⟩)
    H) (BrB (decide ((i_at : Int) > ((l29 : Nat) : Int))) (K (.tuple ⟨[.slice none 0 0, .int .i64 2]⟩) H) (BrB (decide ((i_n : Int) < 0)) (K (.tuple ⟨[.slice none
    0 0, .int .i64 2]⟩) H) (Ck ((0 : Int) ≤ i_at ∧ (i_at : Int) ≤ IntKind.wrap .i64 (i_at + (imin i_n (IntKind.wrap .i64 (((l29 : Nat) : Int) - i_at)))) ∧
    (IntKind.wrap .i64 (i_at + (imin i_n (IntKind.wrap .i64 (((l29 : Nat) : Int) - i_at)))) : Int) ≤ ((c29 : Nat) : Int) ∧ (((c29 : Nat) : Int) : Int) ≤ ((c29 :
    Nat) : Int)) (Smk Try.prog (Builtin.append_ #[22, 22] 22 ⟨[.slice none 0 0, .slice (slA a29 i_at ((c29 : Nat) : Int) 1) (slN i_at (IntKind.wrap .i64 (i_at +
    (imin i_n (IntKind.wrap .i64 (((l29 : Nat) : Int) - i_at)))))) (slN i_at ((c29 : Nat) : Int))]⟩) H fun v H => RtL v fun a54 l54 c54 => K (.tuple ⟨[.slice a54
    l54 c54, .int .i64 0]⟩) H)))))
def tb74 : Tab := { ord := [], ent := [], lp := [], jn := [] }
theorem F74_eq (p_f : Option Addr) (s_s : ByteArray) (i_at : Int) (i_n : Int) (H : Heap) (K : Value → Heap → Prop) : F74 p_f s_s i_at i_n H K = FnW Try.prog tb74 74 [.pointer p_f, .string s_s, .int .i64 i_at, .int .i64 i_n] H K := by kernel_rfl
theorem F74_is : isFnB Try.prog 74 = true := by kernel_rfl
theorem F74_ok (p_f : Option Addr) (s_s : ByteArray) (i_at : Int) (i_n : Int) {H : Heap} {K : Value → Heap → Prop} (h : F74 p_f s_s i_at i_n H K) : Fn 74 [.pointer p_f, .string s_s, .int .i64 i_at, .int .i64 i_n] H K :=
  FnH.of_W mixed F74_is (by kernel_rfl) (cast (F74_eq p_f s_s i_at i_n H K) h)

/- (*stook/stookref14.FS).Size -/
def F75 (p_f : Option Addr) (s_s : ByteArray) (H : Heap) (K : Value → Heap → Prop) : Prop :=
  Fn 87 [.pointer p_f, .string s_s] H fun v H => RtT 2 v fun ts => RtI .i64 (ts.getD 0 undef) fun i11 => RtI .i64 (ts.getD 1 undef) fun i11_1 => BrB ((i11_1 : Int)
    != 0) (K (.tuple ⟨[.int .i64 0, .int .i64 i11_1]⟩) H) (NilC p_f fun q18 => Ld (cellH H (Addr.add q18 1)) fun w20 => RtL w20 fun a20 l20 c20 => Idx a20 l20 i11
    2 fun e22 => Fn 89 [.pointer (some e22)] H fun v H => RtL v fun a23 l23 c23 => K (.tuple ⟨[.int .i64 ((l23 : Nat) : Int), .int .i64 0]⟩) H)
def tb75 : Tab := { ord := [], ent := [], lp := [], jn := [] }
theorem F75_eq (p_f : Option Addr) (s_s : ByteArray) (H : Heap) (K : Value → Heap → Prop) : F75 p_f s_s H K = FnW Try.prog tb75 75 [.pointer p_f, .string s_s] H K := by kernel_rfl
theorem F75_is : isFnB Try.prog 75 = true := by kernel_rfl
theorem F75_ok (p_f : Option Addr) (s_s : ByteArray) {H : Heap} {K : Value → Heap → Prop} (h : F75 p_f s_s H K) : Fn 75 [.pointer p_f, .string s_s] H K :=
  FnH.of_W mixed F75_is (by kernel_rfl) (cast (F75_eq p_f s_s H K) h)

/- stook/stooklaw14.files -/
def F76 (p_f : Option Addr) (p_g : Option Addr) (a_l : Option Addr) (l_l : Nat) (c_l : Nat) (H : Heap) (K : Value → Heap → Prop) : Prop :=
  Lp (fun (I : Int → Heap → Prop) (_ : Int → Heap → Nat) => I 0 H) (fun I M => ∀ _ : Fr, ∀ i_i : Int, ∀ H0 : Heap, I i_i H0 → At H0 fun H => BrB (decide ((i_i :
    Int) < ((l_l : Nat) : Int))) (Idx a_l l_l i_i 1 fun e22 => Ld (cellH H e22) fun w23 => RtS w23 fun s23 => Fn 21 [.pointer p_f, .string s23, .int .i64 0, .int
    .i64 1048576] H fun v H => RtT 2 v fun ts => RtL (ts.getD 0 undef) fun a24 l24 c24 => RtI .i64 (ts.getD 1 undef) fun i24 => Idx a_l l_l i_i 1 fun e31 => Ld
    (cellH H e31) fun w32 => RtS w32 fun s32 => Fn 74 [.pointer p_g, .string s32, .int .i64 0, .int .i64 1048576] H fun v H => RtT 2 v fun ts_1 => RtL (ts_1.getD 0
    undef) fun a33 l33 c33 => RtI .i64 (ts_1.getD 1 undef) fun i33 => BrB ((i24 : Int) != i33) (K (.bool false) H) (Fn 22 [.slice a24 l24 c24, .slice a33 l33 c33]
    H fun v H => RtB v fun b42 => BrB (!b42) (K (.bool false) H) (I (IntKind.wrap .i64 (i_i + 1)) H ∧ M (IntKind.wrap .i64 (i_i + 1)) H < M i_i H0))) (K (.bool
    true) H))
def tb76 : Tab := { ord := [], ent := [], lp := [(2, [(7, .one (.int .i64))])], jn := [] }
theorem F76_eq (p_f : Option Addr) (p_g : Option Addr) (a_l : Option Addr) (l_l : Nat) (c_l : Nat) (H : Heap) (K : Value → Heap → Prop) : F76 p_f p_g a_l l_l c_l H K = FnW Try.prog tb76 76 [.pointer p_f, .pointer p_g, .slice a_l l_l c_l] H K := by kernel_rfl
theorem F76_is : isFnB Try.prog 76 = true := by kernel_rfl
theorem F76_ok (p_f : Option Addr) (p_g : Option Addr) (a_l : Option Addr) (l_l : Nat) (c_l : Nat) {H : Heap} {K : Value → Heap → Prop} (h : F76 p_f p_g a_l l_l c_l H K) : Fn 76 [.pointer p_f, .pointer p_g, .slice a_l l_l c_l] H K :=
  FnH.of_W mixed F76_is (by kernel_rfl) (cast (F76_eq p_f p_g a_l l_l c_l H K) h)

/- (*stook/stookref14.taker).take -/
def F77 (p_t : Option Addr) (i_many : Int) (H : Heap) (K : Value → Heap → Prop) : Prop :=
  NilC p_t fun q6 => Ld (cellH H (Addr.add q6 1)) fun w8 => RtI .i64 w8 fun i8 => NilC p_t fun q10 => Ld (cellH H (Addr.add q10 0)) fun w12 => RtL w12 fun a12 l12
    c12 => BrB ((i8 : Int) == ((l12 : Nat) : Int)) (K (.int .i64 0) H) (NilC p_t fun q16 => Ld (cellH H (Addr.add q16 1)) fun w18 => RtI .i64 w18 fun i18 => NilC
    p_t fun q20 => StV H (Addr.add q20 1) 1 [.int .i64 (IntKind.wrap .i64 (i18 + 1))] fun H => NilC p_t fun q23 => Ld (cellH H (Addr.add q23 0)) fun w25 => RtL w25
    fun a25 l25 c25 => NilC p_t fun q27 => Ld (cellH H (Addr.add q27 1)) fun w29 => RtI .i64 w29 fun i29 => Idx a25 l25 (IntKind.wrap .i64 (i29 - 1)) 1 fun e31 =>
    Ld (cellH H e31) fun w32 => RtI .i64 w32 fun i32 => Ck ((IntKind.wrap .u64 i_many : Int) ≠ 0) (K (.int .i64 (IntKind.wrap .i64 (Int.tmod (IntKind.wrap .u64
    i32) (IntKind.wrap .u64 i_many)))) H))
def tb77 : Tab := { ord := [(1, [0, 1, 2, 3, 4, 5, 6, 7, 8, 9]), (4, [0, 1, 2, 3, 4, 5, 6, 7, 8, 9, 10, 11, 12, 13, 14, 15, 16])], ent := [], lp := [], jn := [] }
theorem F77_eq (p_t : Option Addr) (i_many : Int) (H : Heap) (K : Value → Heap → Prop) : F77 p_t i_many H K = FnW Try.prog tb77 77 [.pointer p_t, .int .i64 i_many] H K := by kernel_rfl
theorem F77_is : isFnB Try.prog 77 = true := by kernel_rfl
theorem F77_ok (p_t : Option Addr) (i_many : Int) {H : Heap} {K : Value → Heap → Prop} (h : F77 p_t i_many H K) : Fn 77 [.pointer p_t, .int .i64 i_many] H K :=
  FnH.of_W mixed F77_is (by kernel_rfl) (cast (F77_eq p_t i_many H K) h)

/- (*stook/stookref14.file).bytes -/
def F78 (p_f : Option Addr) (i_acts : Int) (H : Heap) (K : Value → Heap → Prop) : Prop :=
  NilC p_f fun q8 => Ld (cellH H (Addr.add q8 0)) fun w10 => RtL w10 fun a10 l10 c10 => Fn 90 [.slice a10 l10 c10, .agg ⟨[.bool false, .int .i64 0, .slice none 0
    0]⟩] H fun v H => RtL v fun a12 l12 c12 => Lp (fun (I : Option Addr → Nat → Nat → Int → Heap → Prop) (_ : Option Addr → Nat → Nat → Int → Heap → Nat) => I a12
    l12 c12 0 H) (fun I M => ∀ _ : Fr, ∀ a_out : Option Addr, ∀ l_out : Nat, ∀ c_out : Nat, ∀ i_i : Int, ∀ H0 : Heap, I a_out l_out c_out i_i H0 → At H0 fun H =>
    BrB (decide ((i_i : Int) < i_acts)) (NilC p_f fun q20 => Ld (cellH H (Addr.add q20 1)) fun w22 => RtL w22 fun a22 l22 c22 => Idx a22 l22 i_i 3 fun e24 => Ld
    (rowV H e24 3) fun w25 => RtA 3 w25 fun ws => RtB (ws.getD 0 undef) fun b25 => RtI .i64 (ws.getD 1 undef) fun i25 => RtL (ws.getD 2 undef) fun a25 l25 c25 =>
    Fn 90 [.slice a_out l_out c_out, .agg ⟨[.bool b25, .int .i64 i25, .slice a25 l25 c25]⟩] H fun v H => RtL v fun a26 l26 c26 => I a26 l26 c26 (IntKind.wrap .i64
    (i_i + 1)) H ∧ M a26 l26 c26 (IntKind.wrap .i64 (i_i + 1)) H < M a_out l_out c_out i_i H0) (K (.slice a_out l_out c_out) H))
def tb78 : Tab := { ord := [], ent := [], lp := [(3, [(5, .one (.sl)), (6, .one (.int .i64))])], jn := [] }
theorem F78_eq (p_f : Option Addr) (i_acts : Int) (H : Heap) (K : Value → Heap → Prop) : F78 p_f i_acts H K = FnW Try.prog tb78 78 [.pointer p_f, .int .i64 i_acts] H K := by kernel_rfl
theorem F78_is : isFnB Try.prog 78 = true := by kernel_rfl
theorem F78_ok (p_f : Option Addr) (i_acts : Int) {H : Heap} {K : Value → Heap → Prop} (h : F78 p_f i_acts H K) : Fn 78 [.pointer p_f, .int .i64 i_acts] H K :=
  FnH.of_W mixed F78_is (by kernel_rfl) (cast (F78_eq p_f i_acts H K) h)

/- stook/stookref14.torn -/
def F79 (a_b : Option Addr) (l_b : Nat) (c_b : Nat) (b_a : Bool) (i_a : Int) (a_a : Option Addr) (l_a : Nat) (c_a : Nat) (i_n : Int) (H : Heap) (K : Value → Heap → Prop) : Prop :=
  New H (.cells ⟨[.bool b_a, .int .i64 i_a, .slice a_a l_a c_a]⟩ 115) fun nb H => Ld (cellH H (Addr.add ⟨nb, 0, none⟩ 1)) fun w9 => RtI .i64 w9 fun i9 => Jn (fun J
    : Int → Heap → Prop => ∀ _ : Fr, ∀ i_end : Int, ∀ H : Heap, J i_end H → Ld (cellH H (Addr.add ⟨nb, 0, none⟩ 1)) fun w21 => RtI .i64 w21 fun i21 => BrB (decide
    ((i_end : Int) ≤ i21)) (K (.slice a_b l_b c_b) H) (Ld (cellH H (Addr.add ⟨nb, 0, none⟩ 1)) fun w26 => RtI .i64 w26 fun i26 => Ld (cellH H (Addr.add ⟨nb, 0,
    none⟩ 2)) fun w28 => RtL w28 fun a28 l28 c28 => Ld (cellH H (Addr.add ⟨nb, 0, none⟩ 1)) fun w31 => RtI .i64 w31 fun i31 => Ck ((0 : Int) ≤ 0 ∧ (0 : Int) ≤
    IntKind.wrap .i64 (i_end - i31) ∧ (IntKind.wrap .i64 (i_end - i31) : Int) ≤ ((c28 : Nat) : Int) ∧ (((c28 : Nat) : Int) : Int) ≤ ((c28 : Nat) : Int)) (Fn 90
    [.slice a_b l_b c_b, .agg ⟨[.bool false, .int .i64 i26, .slice (slA a28 0 ((c28 : Nat) : Int) 1) (slN 0 (IntKind.wrap .i64 (i_end - i31))) (slN 0 ((c28 : Nat)
    : Int))]⟩] H fun v H => RtL v fun a35 l35 c35 => K (.slice a35 l35 c35) H))) (fun J => BrB (decide ((IntKind.wrap .i64 (i9 + i_n) : Int) < ((l_b : Nat) :
    Int))) (Ck ((512 : Int) ≠ 0) (J (IntKind.wrap .i64 ((IntKind.wrap .i64 (Int.tdiv (IntKind.wrap .i64 (i9 + i_n)) 512)) * 512)) H)) (J (IntKind.wrap .i64 (i9 +
    i_n)) H))
def tb79 : Tab := { ord := [(6, [0, 1, 2, 3, 4, 5, 6, 7, 8, 9, 10, 11, 12])], ent := [], lp := [], jn := [(2, [(7, .one (.int .i64))])] }
theorem F79_eq (a_b : Option Addr) (l_b : Nat) (c_b : Nat) (b_a : Bool) (i_a : Int) (a_a : Option Addr) (l_a : Nat) (c_a : Nat) (i_n : Int) (H : Heap) (K : Value → Heap → Prop) : F79 a_b l_b c_b b_a i_a a_a l_a c_a i_n H K = FnW Try.prog tb79 79 [.slice a_b l_b c_b, .agg ⟨[.bool b_a, .int .i64 i_a, .slice a_a l_a c_a]⟩, .int .i64 i_n] H K := by kernel_rfl
theorem F79_is : isFnB Try.prog 79 = true := by kernel_rfl
theorem F79_ok (a_b : Option Addr) (l_b : Nat) (c_b : Nat) (b_a : Bool) (i_a : Int) (a_a : Option Addr) (l_a : Nat) (c_a : Nat) (i_n : Int) {H : Heap} {K : Value → Heap → Prop} (h : F79 a_b l_b c_b b_a i_a a_a l_a c_a i_n H K) : Fn 79 [.slice a_b l_b c_b, .agg ⟨[.bool b_a, .int .i64 i_a, .slice a_a l_a c_a]⟩, .int .i64 i_n] H K :=
  FnH.of_W mixed F79_is (by kernel_rfl) (cast (F79_eq a_b l_b c_b b_a i_a a_a l_a c_a i_n H K) h)

/- (*stook/simfs.FS).end -/
def F80 (p_f : Option Addr) (H : Heap) (K : Value → Heap → Prop) : Prop :=
  Fn 51 [.pointer p_f] H fun v H => RtB v fun b4 => BrB b4 (K (.int .i64 13) H) (K (.int .i64 0) H)
def tb80 : Tab := { ord := [], ent := [], lp := [], jn := [] }
theorem F80_eq (p_f : Option Addr) (H : Heap) (K : Value → Heap → Prop) : F80 p_f H K = FnW Try.prog tb80 80 [.pointer p_f] H K := by kernel_rfl
theorem F80_is : isFnB Try.prog 80 = true := by kernel_rfl
theorem F80_ok (p_f : Option Addr) {H : Heap} {K : Value → Heap → Prop} (h : F80 p_f H K) : Fn 80 [.pointer p_f] H K :=
  FnH.of_W mixed F80_is (by kernel_rfl) (cast (F80_eq p_f H K) h)

/- (stook/simfs.change).do -/
def F81 (b_c : Bool) (i_c : Int) (a_c : Option Addr) (l_c : Nat) (c_c : Nat) (a_b : Option Addr) (l_b : Nat) (c_b : Nat) (H : Heap) (K : Value → Heap → Prop) : Prop :=
  New H (.cells ⟨[.bool b_c, .int .i64 i_c, .slice a_c l_c c_c]⟩ 90) fun nb H => Ld (cellH H (Addr.add ⟨nb, 0, none⟩ 0)) fun w8 => RtB w8 fun b8 => BrB b8 (Ld
    (cellH H (Addr.add ⟨nb, 0, none⟩ 1)) fun w11 => RtI .i64 w11 fun i11 => Ld (cellH H (Addr.add ⟨nb, 0, none⟩ 1)) fun w13 => RtI .i64 w13 fun i13 => Ck ((0 :
    Int) ≤ 0 ∧ (0 : Int) ≤ i11 ∧ (i11 : Int) ≤ i13 ∧ (i13 : Int) ≤ ((c_b : Nat) : Int)) (K (.slice (slA a_b 0 i13 1) (slN 0 i11) (slN 0 i13)) H)) (Smk Try.prog
    (Builtin.append_ #[22, 22] 22 ⟨[.slice none 0 0, .slice a_b l_b c_b]⟩) H fun v H => RtL v fun a16 l16 c16 => Ld (cellH H (Addr.add ⟨nb, 0, none⟩ 1)) fun w19 =>
    RtI .i64 w19 fun i19 => Ck ((0 : Int) ≤ i19 ∧ (i19 : Int) ≤ ((l16 : Nat) : Int) ∧ (((l16 : Nat) : Int) : Int) ≤ ((c16 : Nat) : Int) ∧ (((c16 : Nat) : Int) :
    Int) ≤ ((c16 : Nat) : Int)) (Ld (cellH H (Addr.add ⟨nb, 0, none⟩ 2)) fun w22 => RtL w22 fun a22 l22 c22 => Smk Try.prog (Builtin.copy_ #[22, 22] 3 ⟨[.slice
    (slA a16 i19 ((c16 : Nat) : Int) 1) (slN i19 ((l16 : Nat) : Int)) (slN i19 ((c16 : Nat) : Int)), .slice a22 l22 c22]⟩) H fun v H => RtI .i64 v fun i23 => Ld
    (cellH H (Addr.add ⟨nb, 0, none⟩ 2)) fun w26 => RtL w26 fun a26 l26 c26 => Ck ((0 : Int) ≤ i23 ∧ (i23 : Int) ≤ ((l26 : Nat) : Int) ∧ (((l26 : Nat) : Int) :
    Int) ≤ ((c26 : Nat) : Int) ∧ (((c26 : Nat) : Int) : Int) ≤ ((c26 : Nat) : Int)) (Smk Try.prog (Builtin.append_ #[22, 22] 22 ⟨[.slice a16 l16 c16, .slice (slA
    a26 i23 ((c26 : Nat) : Int) 1) (slN i23 ((l26 : Nat) : Int)) (slN i23 ((c26 : Nat) : Int))]⟩) H fun v H => RtL v fun a29 l29 c29 => K (.slice a29 l29 c29) H)))
def tb81 : Tab := { ord := [(4, [0, 1, 2, 3, 4, 5, 6, 7])], ent := [], lp := [], jn := [] }
theorem F81_eq (b_c : Bool) (i_c : Int) (a_c : Option Addr) (l_c : Nat) (c_c : Nat) (a_b : Option Addr) (l_b : Nat) (c_b : Nat) (H : Heap) (K : Value → Heap → Prop) : F81 b_c i_c a_c l_c c_c a_b l_b c_b H K = FnW Try.prog tb81 81 [.agg ⟨[.bool b_c, .int .i64 i_c, .slice a_c l_c c_c]⟩, .slice a_b l_b c_b] H K := by kernel_rfl
theorem F81_is : isFnB Try.prog 81 = true := by kernel_rfl
theorem F81_ok (b_c : Bool) (i_c : Int) (a_c : Option Addr) (l_c : Nat) (c_c : Nat) (a_b : Option Addr) (l_b : Nat) (c_b : Nat) {H : Heap} {K : Value → Heap → Prop} (h : F81 b_c i_c a_c l_c c_c a_b l_b c_b H K) : Fn 81 [.agg ⟨[.bool b_c, .int .i64 i_c, .slice a_c l_c c_c]⟩, .slice a_b l_b c_b] H K :=
  FnH.of_W mixed F81_is (by kernel_rfl) (cast (F81_eq b_c i_c a_c l_c c_c a_b l_b c_b H K) h)

/- stook/stookref14.name -/
def F83 (s_s : ByteArray) (H : Heap) (K : Value → Heap → Prop) : Prop :=
  Lp (fun (I : Int → Heap → Prop) (_ : Int → Heap → Nat) => I 0 H) (fun I M => ∀ _ : Fr, ∀ i_i : Int, ∀ H0 : Heap, I i_i H0 → At H0 fun H => BrB (decide ((i_i :
    Int) < ((s_s.size : Nat) : Int))) (StrAt s_s i_i fun u13 => BrB (decide ((((u13.toNat : Nat) : Int) : Int) < 97)) (BrB (decide ((((u13.toNat : Nat) : Int) :
    Int) < 48)) (BrB ((((u13.toNat : Nat) : Int) : Int) != 46) (BrB ((((u13.toNat : Nat) : Int) : Int) != 45) (K (.bool false) H) (I (IntKind.wrap .i64 (i_i + 1))
    H ∧ M (IntKind.wrap .i64 (i_i + 1)) H < M i_i H0)) (I (IntKind.wrap .i64 (i_i + 1)) H ∧ M (IntKind.wrap .i64 (i_i + 1)) H < M i_i H0)) (BrB (decide
    ((((u13.toNat : Nat) : Int) : Int) > 57)) (BrB ((((u13.toNat : Nat) : Int) : Int) != 46) (BrB ((((u13.toNat : Nat) : Int) : Int) != 45) (K (.bool false) H) (I
    (IntKind.wrap .i64 (i_i + 1)) H ∧ M (IntKind.wrap .i64 (i_i + 1)) H < M i_i H0)) (I (IntKind.wrap .i64 (i_i + 1)) H ∧ M (IntKind.wrap .i64 (i_i + 1)) H < M i_i
    H0)) (I (IntKind.wrap .i64 (i_i + 1)) H ∧ M (IntKind.wrap .i64 (i_i + 1)) H < M i_i H0))) (BrB (decide ((((u13.toNat : Nat) : Int) : Int) > 122)) (BrB (decide
    ((((u13.toNat : Nat) : Int) : Int) < 48)) (BrB ((((u13.toNat : Nat) : Int) : Int) != 46) (BrB ((((u13.toNat : Nat) : Int) : Int) != 45) (K (.bool false) H) (I
    (IntKind.wrap .i64 (i_i + 1)) H ∧ M (IntKind.wrap .i64 (i_i + 1)) H < M i_i H0)) (I (IntKind.wrap .i64 (i_i + 1)) H ∧ M (IntKind.wrap .i64 (i_i + 1)) H < M i_i
    H0)) (BrB (decide ((((u13.toNat : Nat) : Int) : Int) > 57)) (BrB ((((u13.toNat : Nat) : Int) : Int) != 46) (BrB ((((u13.toNat : Nat) : Int) : Int) != 45) (K
    (.bool false) H) (I (IntKind.wrap .i64 (i_i + 1)) H ∧ M (IntKind.wrap .i64 (i_i + 1)) H < M i_i H0)) (I (IntKind.wrap .i64 (i_i + 1)) H ∧ M (IntKind.wrap .i64
    (i_i + 1)) H < M i_i H0)) (I (IntKind.wrap .i64 (i_i + 1)) H ∧ M (IntKind.wrap .i64 (i_i + 1)) H < M i_i H0))) (I (IntKind.wrap .i64 (i_i + 1)) H ∧ M
    (IntKind.wrap .i64 (i_i + 1)) H < M i_i H0))) (BrB (decide ((((s_s.size : Nat) : Int) : Int) ≥ 1)) (K (.bool (decide ((((s_s.size : Nat) : Int) : Int) ≤ 32)))
    H) (K (.bool false) H)))
def tb83 : Tab := { ord := [], ent := [], lp := [(2, [(3, .one (.int .i64))])], jn := [] }
theorem F83_eq (s_s : ByteArray) (H : Heap) (K : Value → Heap → Prop) : F83 s_s H K = FnW Try.prog tb83 83 [.string s_s] H K := by kernel_rfl
theorem F83_is : isFnB Try.prog 83 = true := by kernel_rfl
theorem F83_ok (s_s : ByteArray) {H : Heap} {K : Value → Heap → Prop} (h : F83 s_s H K) : Fn 83 [.string s_s] H K :=
  FnH.of_W mixed F83_is (by kernel_rfl) (cast (F83_eq s_s H K) h)

/- stook/stookref14.find -/
def F84 (a_l : Option Addr) (l_l : Nat) (c_l : Nat) (s_s : ByteArray) (H : Heap) (K : Value → Heap → Prop) : Prop :=
  Lp (fun (I : Int → Heap → Prop) (_ : Int → Heap → Nat) => I 0 H) (fun I M => ∀ _ : Fr, ∀ i_i : Int, ∀ H0 : Heap, I i_i H0 → At H0 fun H => BrB (decide ((i_i :
    Int) < ((l_l : Nat) : Int))) (Idx a_l l_l i_i 2 fun e14 => Ld (cellH H (Addr.add e14 0)) fun w16 => RtS w16 fun s16 => BrB (s16.toList == s_s.toList) (K (.int
    .i64 i_i) H) (I (IntKind.wrap .i64 (i_i + 1)) H ∧ M (IntKind.wrap .i64 (i_i + 1)) H < M i_i H0)) (K (.int .i64 (-1)) H))
def tb84 : Tab := { ord := [], ent := [], lp := [(2, [(5, .one (.int .i64))])], jn := [] }
theorem F84_eq (a_l : Option Addr) (l_l : Nat) (c_l : Nat) (s_s : ByteArray) (H : Heap) (K : Value → Heap → Prop) : F84 a_l l_l c_l s_s H K = FnW Try.prog tb84 84 [.slice a_l l_l c_l, .string s_s] H K := by kernel_rfl
theorem F84_is : isFnB Try.prog 84 = true := by kernel_rfl
theorem F84_ok (a_l : Option Addr) (l_l : Nat) (c_l : Nat) (s_s : ByteArray) {H : Heap} {K : Value → Heap → Prop} (h : F84 a_l l_l c_l s_s H K) : Fn 84 [.slice a_l l_l c_l, .string s_s] H K :=
  FnH.of_W mixed F84_is (by kernel_rfl) (cast (F84_eq a_l l_l c_l s_s H K) h)

/- (*stook/stookref14.FS).turn -/
def F85 (p_f : Option Addr) (a_l : Option Addr) (l_l : Nat) (c_l : Nat) (H : Heap) (K : Value → Heap → Prop) : Prop :=
  NilC p_f fun q7 => StV H (Addr.add q7 4) 1 [.slice a_l l_l c_l] fun H => NilC p_f fun q11 => Ld (cellH H (Addr.add q11 3)) fun w13 => RtL w13 fun a13 l13 c13 =>
    Smk Try.prog (Instr.buildSlice 100 1 ⟨[(0, .slice a_l l_l c_l)]⟩) H fun v H => RtL v fun a15 l15 c15 => Smk Try.prog (Builtin.append_ #[100, 100] 100 ⟨[.slice
    a13 l13 c13, .slice a15 l15 c15]⟩) H fun v H => RtL v fun a16 l16 c16 => NilC p_f fun q17 => StV H (Addr.add q17 3) 1 [.slice a16 l16 c16] fun H => Fn 92
    [.pointer p_f] H fun v H => RtI .i64 v fun i20 => K (.int .i64 i20) H
def tb85 : Tab := { ord := [], ent := [], lp := [], jn := [] }
theorem F85_eq (p_f : Option Addr) (a_l : Option Addr) (l_l : Nat) (c_l : Nat) (H : Heap) (K : Value → Heap → Prop) : F85 p_f a_l l_l c_l H K = FnW Try.prog tb85 85 [.pointer p_f, .slice a_l l_l c_l] H K := by kernel_rfl
theorem F85_is : isFnB Try.prog 85 = true := by kernel_rfl
theorem F85_ok (p_f : Option Addr) (a_l : Option Addr) (l_l : Nat) (c_l : Nat) {H : Heap} {K : Value → Heap → Prop} (h : F85 p_f a_l l_l c_l H K) : Fn 85 [.pointer p_f, .slice a_l l_l c_l] H K :=
  FnH.of_W mixed F85_is (by kernel_rfl) (cast (F85_eq p_f a_l l_l c_l H K) h)

/- stook/stookref14.with -/
def F86 (a_l : Option Addr) (l_l : Nat) (c_l : Nat) (s_s : ByteArray) (i_file : Int) (H : Heap) (K : Value → Heap → Prop) : Prop :=
  Lp (fun (I : Int → Heap → Prop) (_ : Int → Heap → Nat) => I 0 H) (fun I M => ∀ _ : Fr, ∀ i_at : Int, ∀ H0 : Heap, I i_at H0 → At H0 fun H => BrB (decide ((i_at :
    Int) < ((l_l : Nat) : Int))) (Idx a_l l_l i_at 2 fun e16 => Ld (cellH H (Addr.add e16 0)) fun w18 => RtS w18 fun s18 => BrB (Op.bytesLess s18.toList
    s_s.toList) (I (IntKind.wrap .i64 (i_at + 1)) H ∧ M (IntKind.wrap .i64 (i_at + 1)) H < M i_at H0) (Ck ((0 : Int) ≤ 0 ∧ (0 : Int) ≤ i_at ∧ (i_at : Int) ≤ ((c_l
    : Nat) : Int) ∧ (((c_l : Nat) : Int) : Int) ≤ ((c_l : Nat) : Int)) (Smk Try.prog (Builtin.append_ #[99, 99] 99 ⟨[.slice none 0 0, .slice (slA a_l 0 ((c_l :
    Nat) : Int) 2) (slN 0 i_at) (slN 0 ((c_l : Nat) : Int))]⟩) H fun v H => RtL v fun a28 l28 c28 => Smk Try.prog (Instr.buildSlice 99 1 ⟨[(0, .agg ⟨[.string s_s,
    .int .i64 i_file]⟩)]⟩) H fun v H => RtL v fun a33 l33 c33 => Smk Try.prog (Builtin.append_ #[99, 99] 99 ⟨[.slice a28 l28 c28, .slice a33 l33 c33]⟩) H fun v H
    => RtL v fun a34 l34 c34 => Ck ((0 : Int) ≤ i_at ∧ (i_at : Int) ≤ ((l_l : Nat) : Int) ∧ (((l_l : Nat) : Int) : Int) ≤ ((c_l : Nat) : Int) ∧ (((c_l : Nat) :
    Int) : Int) ≤ ((c_l : Nat) : Int)) (Smk Try.prog (Builtin.append_ #[99, 99] 99 ⟨[.slice a34 l34 c34, .slice (slA a_l i_at ((c_l : Nat) : Int) 2) (slN i_at
    ((l_l : Nat) : Int)) (slN i_at ((c_l : Nat) : Int))]⟩) H fun v H => RtL v fun a39 l39 c39 => K (.slice a39 l39 c39) H)))) (Ck ((0 : Int) ≤ 0 ∧ (0 : Int) ≤ i_at
    ∧ (i_at : Int) ≤ ((c_l : Nat) : Int) ∧ (((c_l : Nat) : Int) : Int) ≤ ((c_l : Nat) : Int)) (Smk Try.prog (Builtin.append_ #[99, 99] 99 ⟨[.slice none 0 0, .slice
    (slA a_l 0 ((c_l : Nat) : Int) 2) (slN 0 i_at) (slN 0 ((c_l : Nat) : Int))]⟩) H fun v H => RtL v fun a28_1 l28_1 c28_1 => Smk Try.prog (Instr.buildSlice 99 1
    ⟨[(0, .agg ⟨[.string s_s, .int .i64 i_file]⟩)]⟩) H fun v H => RtL v fun a33_1 l33_1 c33_1 => Smk Try.prog (Builtin.append_ #[99, 99] 99 ⟨[.slice a28_1 l28_1
    c28_1, .slice a33_1 l33_1 c33_1]⟩) H fun v H => RtL v fun a34_1 l34_1 c34_1 => Ck ((0 : Int) ≤ i_at ∧ (i_at : Int) ≤ ((l_l : Nat) : Int) ∧ (((l_l : Nat) : Int)
    : Int) ≤ ((c_l : Nat) : Int) ∧ (((c_l : Nat) : Int) : Int) ≤ ((c_l : Nat) : Int)) (Smk Try.prog (Builtin.append_ #[99, 99] 99 ⟨[.slice a34_1 l34_1 c34_1,
    .slice (slA a_l i_at ((c_l : Nat) : Int) 2) (slN i_at ((l_l : Nat) : Int)) (slN i_at ((c_l : Nat) : Int))]⟩) H fun v H => RtL v fun a39_1 l39_1 c39_1 => K
    (.slice a39_1 l39_1 c39_1) H))))
def tb86 : Tab := { ord := [], ent := [], lp := [(2, [(7, .one (.int .i64))])], jn := [] }
theorem F86_eq (a_l : Option Addr) (l_l : Nat) (c_l : Nat) (s_s : ByteArray) (i_file : Int) (H : Heap) (K : Value → Heap → Prop) : F86 a_l l_l c_l s_s i_file H K = FnW Try.prog tb86 86 [.slice a_l l_l c_l, .string s_s, .int .i64 i_file] H K := by kernel_rfl
theorem F86_is : isFnB Try.prog 86 = true := by kernel_rfl
theorem F86_ok (a_l : Option Addr) (l_l : Nat) (c_l : Nat) (s_s : ByteArray) (i_file : Int) {H : Heap} {K : Value → Heap → Prop} (h : F86 a_l l_l c_l s_s i_file H K) : Fn 86 [.slice a_l l_l c_l, .string s_s, .int .i64 i_file] H K :=
  FnH.of_W mixed F86_is (by kernel_rfl) (cast (F86_eq a_l l_l c_l s_s i_file H K) h)

/- (*stook/stookref14.FS).get -/
def F87 (p_f : Option Addr) (s_s : ByteArray) (H : Heap) (K : Value → Heap → Prop) : Prop :=
  NilC p_f fun q8 => Ld (cellH H (Addr.add q8 7)) fun w10 => RtB w10 fun b10 => BrB b10 (K (.tuple ⟨[.int .i64 0, .int .i64 13]⟩) H) (NilC p_f fun q12 => Ld (cellH
    H (Addr.add q12 4)) fun w14 => RtL w14 fun a14 l14 c14 => Fn 84 [.slice a14 l14 c14, .string s_s] H fun v H => RtI .i64 v fun i16 => BrB (decide ((i16 : Int) <
    0)) (K (.tuple ⟨[.int .i64 0, .int .i64 7]⟩) H) (NilC p_f fun q20 => Ld (cellH H (Addr.add q20 4)) fun w22 => RtL w22 fun a22 l22 c22 => Idx a22 l22 i16 2 fun
    e24 => Ld (cellH H (Addr.add e24 1)) fun w26 => RtI .i64 w26 fun i26 => K (.tuple ⟨[.int .i64 i26, .int .i64 0]⟩) H))
def tb87 : Tab := { ord := [], ent := [], lp := [], jn := [] }
theorem F87_eq (p_f : Option Addr) (s_s : ByteArray) (H : Heap) (K : Value → Heap → Prop) : F87 p_f s_s H K = FnW Try.prog tb87 87 [.pointer p_f, .string s_s] H K := by kernel_rfl
theorem F87_is : isFnB Try.prog 87 = true := by kernel_rfl
theorem F87_ok (p_f : Option Addr) (s_s : ByteArray) {H : Heap} {K : Value → Heap → Prop} (h : F87 p_f s_s H K) : Fn 87 [.pointer p_f, .string s_s] H K :=
  FnH.of_W mixed F87_is (by kernel_rfl) (cast (F87_eq p_f s_s H K) h)

/- (*stook/stookref14.FS).add -/
def F88 (p_f : Option Addr) (i_file : Int) (b_a : Bool) (i_a : Int) (a_a : Option Addr) (l_a : Nat) (c_a : Nat) (H : Heap) (K : Value → Heap → Prop) : Prop :=
  New H (.cells ⟨[.bool b_a, .int .i64 i_a, .slice a_a l_a c_a]⟩ 115) fun nb H => NilC p_f fun q8 => Ld (cellH H (Addr.add q8 1)) fun w10 => RtL w10 fun a10 l10
    c10 => NilC p_f fun q13 => Ld (cellH H (Addr.add q13 1)) fun w15 => RtL w15 fun a15 l15 c15 => Idx a15 l15 i_file 2 fun e17 => Ld (cellH H (Addr.add e17 1))
    fun w19 => RtL w19 fun a19 l19 c19 => Ld (rowV H ⟨nb, 0, none⟩ 3) fun w20 => RtA 3 w20 fun ws => RtB (ws.getD 0 undef) fun b20 => RtI .i64 (ws.getD 1 undef)
    fun i20 => RtL (ws.getD 2 undef) fun a20 l20 c20 => Smk Try.prog (Instr.buildSlice 108 1 ⟨[(0, .agg ⟨[.bool b20, .int .i64 i20, .slice a20 l20 c20]⟩)]⟩) H fun
    v H => RtL v fun a21 l21 c21 => Ck (cellH H (Addr.add e17 1) = some w19) (Ck (cellH H (Addr.add q13 1) = some w15) (Ck (cellH H (Addr.add q8 1) = some w10)
    (Smk Try.prog (Builtin.append_ #[108, 108] 108 ⟨[.slice a19 l19 c19, .slice a21 l21 c21]⟩) H fun v H => RtL v fun a22 l22 c22 => Ck (cellH H (Addr.add q8 1) =
    some w10) (Idx a10 l10 i_file 2 fun e23 => StV H (Addr.add e23 1) 1 [.slice a22 l22 c22] fun H => Fn 92 [.pointer p_f] H fun v H => RtI .i64 v fun i26 => K
    (.int .i64 i26) H))))
def tb88 : Tab := { ord := [(1, [0, 1, 2, 3, 4, 5, 6, 7, 8, 9, 10, 11, 12, 13, 14, 15, 16, 17, 18])], ent := [], lp := [], jn := [] }
theorem F88_eq (p_f : Option Addr) (i_file : Int) (b_a : Bool) (i_a : Int) (a_a : Option Addr) (l_a : Nat) (c_a : Nat) (H : Heap) (K : Value → Heap → Prop) : F88 p_f i_file b_a i_a a_a l_a c_a H K = FnW Try.prog tb88 88 [.pointer p_f, .int .i64 i_file, .agg ⟨[.bool b_a, .int .i64 i_a, .slice a_a l_a c_a]⟩] H K := by kernel_rfl
theorem F88_is : isFnB Try.prog 88 = true := by kernel_rfl
theorem F88_ok (p_f : Option Addr) (i_file : Int) (b_a : Bool) (i_a : Int) (a_a : Option Addr) (l_a : Nat) (c_a : Nat) {H : Heap} {K : Value → Heap → Prop} (h : F88 p_f i_file b_a i_a a_a l_a c_a H K) : Fn 88 [.pointer p_f, .int .i64 i_file, .agg ⟨[.bool b_a, .int .i64 i_a, .slice a_a l_a c_a]⟩] H K :=
  FnH.of_W mixed F88_is (by kernel_rfl) (cast (F88_eq p_f i_file b_a i_a a_a l_a c_a H K) h)

/- (*stook/stookref14.file).now -/
def F89 (p_f : Option Addr) (H : Heap) (K : Value → Heap → Prop) : Prop :=
  NilC p_f fun q5 => Ld (cellH H (Addr.add q5 1)) fun w7 => RtL w7 fun a7 l7 c7 => Fn 78 [.pointer p_f, .int .i64 ((l7 : Nat) : Int)] H fun v H => RtL v fun a9 l9
    c9 => K (.slice a9 l9 c9) H
def tb89 : Tab := { ord := [], ent := [], lp := [], jn := [] }
theorem F89_eq (p_f : Option Addr) (H : Heap) (K : Value → Heap → Prop) : F89 p_f H K = FnW Try.prog tb89 89 [.pointer p_f] H K := by kernel_rfl
theorem F89_is : isFnB Try.prog 89 = true := by kernel_rfl
theorem F89_ok (p_f : Option Addr) {H : Heap} {K : Value → Heap → Prop} (h : F89 p_f H K) : Fn 89 [.pointer p_f] H K :=
  FnH.of_W mixed F89_is (by kernel_rfl) (cast (F89_eq p_f H K) h)

/- stook/stookref14.done -/
def F90 (a_b : Option Addr) (l_b : Nat) (c_b : Nat) (b_a : Bool) (i_a : Int) (a_a : Option Addr) (l_a : Nat) (c_a : Nat) (H : Heap) (K : Value → Heap → Prop) : Prop :=
  New H (.cells ⟨[.bool b_a, .int .i64 i_a, .slice a_a l_a c_a]⟩ 115) fun nb H => Ld (cellH H (Addr.add ⟨nb, 0, none⟩ 0)) fun w7 => RtB w7 fun b7 => BrB b7 (Ld
    (cellH H (Addr.add ⟨nb, 0, none⟩ 1)) fun w11 => RtI .i64 w11 fun i11 => Ck ((0 : Int) ≤ 0 ∧ (0 : Int) ≤ i11 ∧ (i11 : Int) ≤ ((c_b : Nat) : Int) ∧ (((c_b : Nat)
    : Int) : Int) ≤ ((c_b : Nat) : Int)) (Smk Try.prog (Builtin.append_ #[22, 22] 22 ⟨[.slice none 0 0, .slice (slA a_b 0 ((c_b : Nat) : Int) 1) (slN 0 i11) (slN 0
    ((c_b : Nat) : Int))]⟩) H fun v H => RtL v fun a13 l13 c13 => K (.slice a13 l13 c13) H)) (Ld (cellH H (Addr.add ⟨nb, 0, none⟩ 1)) fun w17 => RtI .i64 w17 fun
    i17 => Ck ((0 : Int) ≤ 0 ∧ (0 : Int) ≤ i17 ∧ (i17 : Int) ≤ ((c_b : Nat) : Int) ∧ (((c_b : Nat) : Int) : Int) ≤ ((c_b : Nat) : Int)) (Smk Try.prog
    (Builtin.append_ #[22, 22] 22 ⟨[.slice none 0 0, .slice (slA a_b 0 ((c_b : Nat) : Int) 1) (slN 0 i17) (slN 0 ((c_b : Nat) : Int))]⟩) H fun v H => RtL v fun a19
    l19 c19 => Ld (cellH H (Addr.add ⟨nb, 0, none⟩ 2)) fun w22 => RtL w22 fun a22 l22 c22 => Smk Try.prog (Builtin.append_ #[22, 22] 22 ⟨[.slice a19 l19 c19,
    .slice a22 l22 c22]⟩) H fun v H => RtL v fun a23 l23 c23 => Jn (fun J : Option Addr → Nat → Nat → Heap → Prop => ∀ _ : Fr, ∀ a_out : Option Addr, ∀ l_out :
    Nat, ∀ c_out : Nat, ∀ H : Heap, J a_out l_out c_out H → K (.slice a_out l_out c_out) H) (fun J => Ld (cellH H (Addr.add ⟨nb, 0, none⟩ 1)) fun w25 => RtI .i64
    w25 fun i25 => Ld (cellH H (Addr.add ⟨nb, 0, none⟩ 2)) fun w27 => RtL w27 fun a27 l27 c27 => BrB (decide ((IntKind.wrap .i64 (i25 + ((l27 : Nat) : Int)) : Int)
    < ((l_b : Nat) : Int))) (Ld (cellH H (Addr.add ⟨nb, 0, none⟩ 1)) fun w36 => RtI .i64 w36 fun i36 => Ld (cellH H (Addr.add ⟨nb, 0, none⟩ 2)) fun w38 => RtL w38
    fun a38 l38 c38 => Ck ((0 : Int) ≤ IntKind.wrap .i64 (i36 + ((l38 : Nat) : Int)) ∧ (IntKind.wrap .i64 (i36 + ((l38 : Nat) : Int)) : Int) ≤ ((l_b : Nat) : Int)
    ∧ (((l_b : Nat) : Int) : Int) ≤ ((c_b : Nat) : Int) ∧ (((c_b : Nat) : Int) : Int) ≤ ((c_b : Nat) : Int)) (Smk Try.prog (Builtin.append_ #[22, 22] 22 ⟨[.slice
    a23 l23 c23, .slice (slA a_b (IntKind.wrap .i64 (i36 + ((l38 : Nat) : Int))) ((c_b : Nat) : Int) 1) (slN (IntKind.wrap .i64 (i36 + ((l38 : Nat) : Int))) ((l_b
    : Nat) : Int)) (slN (IntKind.wrap .i64 (i36 + ((l38 : Nat) : Int))) ((c_b : Nat) : Int))]⟩) H fun v H => RtL v fun a42 l42 c42 => J a42 l42 c42 H)) (J a23 l23
    c23 H))))
def tb90 : Tab := { ord := [], ent := [], lp := [], jn := [(6, [(5, .one (.sl))])] }
theorem F90_eq (a_b : Option Addr) (l_b : Nat) (c_b : Nat) (b_a : Bool) (i_a : Int) (a_a : Option Addr) (l_a : Nat) (c_a : Nat) (H : Heap) (K : Value → Heap → Prop) : F90 a_b l_b c_b b_a i_a a_a l_a c_a H K = FnW Try.prog tb90 90 [.slice a_b l_b c_b, .agg ⟨[.bool b_a, .int .i64 i_a, .slice a_a l_a c_a]⟩] H K := by kernel_rfl
theorem F90_is : isFnB Try.prog 90 = true := by kernel_rfl
theorem F90_ok (a_b : Option Addr) (l_b : Nat) (c_b : Nat) (b_a : Bool) (i_a : Int) (a_a : Option Addr) (l_a : Nat) (c_a : Nat) {H : Heap} {K : Value → Heap → Prop} (h : F90 a_b l_b c_b b_a i_a a_a l_a c_a H K) : Fn 90 [.slice a_b l_b c_b, .agg ⟨[.bool b_a, .int .i64 i_a, .slice a_a l_a c_a]⟩] H K :=
  FnH.of_W mixed F90_is (by kernel_rfl) (cast (F90_eq a_b l_b c_b b_a i_a a_a l_a c_a H K) h)

/- stook/stookref14.without -/
def F91 (a_l : Option Addr) (l_l : Nat) (c_l : Nat) (s_s : ByteArray) (H : Heap) (K : Value → Heap → Prop) : Prop :=
  Lp (fun (I : Option Addr → Nat → Nat → Int → Heap → Prop) (_ : Option Addr → Nat → Nat → Int → Heap → Nat) => I none 0 0 0 H) (fun I M => ∀ _ : Fr, ∀ a_out :
    Option Addr, ∀ l_out : Nat, ∀ c_out : Nat, ∀ i_i : Int, ∀ H0 : Heap, I a_out l_out c_out i_i H0 → At H0 fun H => BrB (decide ((i_i : Int) < ((l_l : Nat) :
    Int))) (Jn (fun J : Option Addr → Nat → Nat → Heap → Prop => ∀ _ : Fr, ∀ a_out_1 : Option Addr, ∀ l_out_1 : Nat, ∀ c_out_1 : Nat, ∀ H : Heap, J a_out_1 l_out_1
    c_out_1 H → I a_out_1 l_out_1 c_out_1 (IntKind.wrap .i64 (i_i + 1)) H ∧ M a_out_1 l_out_1 c_out_1 (IntKind.wrap .i64 (i_i + 1)) H < M a_out l_out c_out i_i H0)
    (fun J => Idx a_l l_l i_i 2 fun e15 => Ld (cellH H (Addr.add e15 0)) fun w17 => RtS w17 fun s17 => BrB (!(s17.toList == s_s.toList)) (Idx a_l l_l i_i 2 fun e23
    => Ld (rowV H e23 2) fun w24 => RtA 2 w24 fun ws => RtS (ws.getD 0 undef) fun s24 => RtI .i64 (ws.getD 1 undef) fun i24 => Smk Try.prog (Instr.buildSlice 99 1
    ⟨[(0, .agg ⟨[.string s24, .int .i64 i24]⟩)]⟩) H fun v H => RtL v fun a25 l25 c25 => Smk Try.prog (Builtin.append_ #[99, 99] 99 ⟨[.slice a_out l_out c_out,
    .slice a25 l25 c25]⟩) H fun v H => RtL v fun a26 l26 c26 => J a26 l26 c26 H) (J a_out l_out c_out H))) (K (.slice a_out l_out c_out) H))
def tb91 : Tab := { ord := [], ent := [], lp := [(3, [(5, .one (.sl)), (6, .one (.int .i64))])], jn := [(5, [(5, .one (.sl))])] }
theorem F91_eq (a_l : Option Addr) (l_l : Nat) (c_l : Nat) (s_s : ByteArray) (H : Heap) (K : Value → Heap → Prop) : F91 a_l l_l c_l s_s H K = FnW Try.prog tb91 91 [.slice a_l l_l c_l, .string s_s] H K := by kernel_rfl
theorem F91_is : isFnB Try.prog 91 = true := by kernel_rfl
theorem F91_ok (a_l : Option Addr) (l_l : Nat) (c_l : Nat) (s_s : ByteArray) {H : Heap} {K : Value → Heap → Prop} (h : F91 a_l l_l c_l s_s H K) : Fn 91 [.slice a_l l_l c_l, .string s_s] H K :=
  FnH.of_W mixed F91_is (by kernel_rfl) (cast (F91_eq a_l l_l c_l s_s H K) h)

/- (*stook/stookref14.FS).blown -/
def F92 (p_f : Option Addr) (H : Heap) (K : Value → Heap → Prop) : Prop :=
  NilC p_f fun q4 => Ld (cellH H (Addr.add q4 5)) fun w6 => RtI .i64 w6 fun i6 => NilC p_f fun q8 => StV H (Addr.add q8 5) 1 [.int .i64 (IntKind.wrap .i64 (i6 +
    1))] fun H => Jn (fun J : Heap → Prop => ∀ _ : Fr, ∀ H : Heap, J H → K (.int .i64 0) H) (fun J => NilC p_f fun q11 => Ld (cellH H (Addr.add q11 6)) fun w13 =>
    RtI .i64 w13 fun i13 => BrB (decide ((i13 : Int) > 0)) (NilC p_f fun q16 => Ld (cellH H (Addr.add q16 6)) fun w18 => RtI .i64 w18 fun i18 => NilC p_f fun q20
    => StV H (Addr.add q20 6) 1 [.int .i64 (IntKind.wrap .i64 (i18 - 1))] fun H => NilC p_f fun q23 => Ld (cellH H (Addr.add q23 6)) fun w25 => RtI .i64 w25 fun
    i25 => BrB ((i25 : Int) == 0) (NilC p_f fun q28 => StV H (Addr.add q28 7) 1 [.bool true] fun H => K (.int .i64 13) H) (J  H)) (J  H))
def tb92 : Tab := { ord := [], ent := [], lp := [], jn := [(2, [])] }
theorem F92_eq (p_f : Option Addr) (H : Heap) (K : Value → Heap → Prop) : F92 p_f H K = FnW Try.prog tb92 92 [.pointer p_f] H K := by kernel_rfl
theorem F92_is : isFnB Try.prog 92 = true := by kernel_rfl
theorem F92_ok (p_f : Option Addr) {H : Heap} {K : Value → Heap → Prop} (h : F92 p_f H K) : Fn 92 [.pointer p_f] H K :=
  FnH.of_W mixed F92_is (by kernel_rfl) (cast (F92_eq p_f H K) h)

end Go.Proofs

set_option linter.unusedVariables false
set_option maxRecDepth 100000
namespace Go.Proofs
open Go Go.Fx
theorem tyf1 : TyF Try.prog 1 (.nilFunc) 1 8 := TyF.of (by kernel_rfl)
/- int64 -/
theorem und2 : Try.prog.underlying 2 = some (.int .i64) := by kernel_rfl
theorem tyf2 : TyF Try.prog 2 (.int .i64 0) 1 8 := TyF.of (by kernel_rfl)
/- int -/
theorem und3 : Try.prog.underlying 3 = some (.int .i64) := by kernel_rfl
theorem tyf3 : TyF Try.prog 3 (.int .i64 0) 1 8 := TyF.of (by kernel_rfl)
/- bool -/
theorem und4 : Try.prog.underlying 4 = some (.bool) := by kernel_rfl
theorem tyf4 : TyF Try.prog 4 (.bool false) 1 1 := TyF.of (by kernel_rfl)
/- uint8 -/
theorem und5 : Try.prog.underlying 5 = some (.int .u8) := by kernel_rfl
theorem tyf5 : TyF Try.prog 5 (.int .u8 0) 1 1 := TyF.of (by kernel_rfl)
/- abi.BoundsErrorCode -/
theorem und6 : Try.prog.underlying 6 = some (.int .u8) := by kernel_rfl
theorem tyf6 : TyF Try.prog 6 (.int .u8 0) 1 1 := TyF.of (by kernel_rfl)
theorem tyf7 : TyF Try.prog 7 (.agg ⟨[.int .i64 0, .int .i64 0, .bool false, .int .u8 0]⟩) 4 24 := TyF.of (by kernel_rfl)
theorem tyf8 : TyF Try.prog 8 (.agg ⟨[.int .i64 0, .int .i64 0, .bool false, .int .u8 0]⟩) 4 24 := TyF.of (by kernel_rfl)
/- string -/
theorem und9 : Try.prog.underlying 9 = some (.string) := by kernel_rfl
theorem tyf9 : TyF Try.prog 9 (.string (str [])) 1 16 := TyF.of (by kernel_rfl)
/- runtime.errorString -/
theorem und10 : Try.prog.underlying 10 = some (.string) := by kernel_rfl
theorem tyf10 : TyF Try.prog 10 (.string (str [])) 1 16 := TyF.of (by kernel_rfl)
/- runtime.plainError -/
theorem und11 : Try.prog.underlying 11 = some (.string) := by kernel_rfl
theorem tyf11 : TyF Try.prog 11 (.string (str [])) 1 16 := TyF.of (by kernel_rfl)
/- uintptr -/
theorem und12 : Try.prog.underlying 12 = some (.int .u64) := by kernel_rfl
theorem tyf12 : TyF Try.prog 12 (.int .u64 0) 1 8 := TyF.of (by kernel_rfl)
theorem tyf13 : TyF Try.prog 13 (.agg ⟨[.string (str []), .int .u64 0]⟩) 2 24 := TyF.of (by kernel_rfl)
theorem tyf14 : TyF Try.prog 14 (.agg ⟨[.string (str []), .int .u64 0]⟩) 2 24 := TyF.of (by kernel_rfl)
/- *runtime.TypeAssertionError -/
theorem und15 : Try.prog.underlying 15 = some (.pointer 150) := by kernel_rfl
theorem tyf15 : TyF Try.prog 15 (.pointer none) 1 8 := TyF.of (by kernel_rfl)
/- *runtime.PanicNilError -/
theorem und16 : Try.prog.underlying 16 = some (.pointer 153) := by kernel_rfl
theorem tyf16 : TyF Try.prog 16 (.pointer none) 1 8 := TyF.of (by kernel_rfl)
/- *abi.Type -/
theorem und17 : Try.prog.underlying 17 = some (.pointer 161) := by kernel_rfl
theorem tyf17 : TyF Try.prog 17 (.pointer none) 1 8 := TyF.of (by kernel_rfl)
theorem tyf18 : TyF Try.prog 18 (.agg ⟨[.pointer none]⟩) 1 8 := TyF.of (by kernel_rfl)
theorem tyf19 : TyF Try.prog 19 (.agg ⟨[.pointer none]⟩) 1 8 := TyF.of (by kernel_rfl)
theorem tyf20 : TyF Try.prog 20 (.nilIface) 1 16 := TyF.of (by kernel_rfl)
/- int32 -/
theorem und21 : Try.prog.underlying 21 = some (.int .i32) := by kernel_rfl
theorem tyf21 : TyF Try.prog 21 (.int .i32 0) 1 4 := TyF.of (by kernel_rfl)
/- []uint8 -/
theorem und22 : Try.prog.underlying 22 = some (.slice 5) := by kernel_rfl
theorem tyf22 : TyF Try.prog 22 (.slice none 0 0) 1 24 := TyF.of (by kernel_rfl)
/- []int -/
theorem und23 : Try.prog.underlying 23 = some (.slice 3) := by kernel_rfl
theorem tyf23 : TyF Try.prog 23 (.slice none 0 0) 1 24 := TyF.of (by kernel_rfl)
theorem tyf24 : TyF Try.prog 24 (.nilFunc) 1 8 := TyF.of (by kernel_rfl)
/- *simfs.FS -/
theorem und25 : Try.prog.underlying 25 = some (.pointer 73) := by kernel_rfl
theorem tyf25 : TyF Try.prog 25 (.pointer none) 1 8 := TyF.of (by kernel_rfl)
/- api.Errno -/
theorem und26 : Try.prog.underlying 26 = some (.int .i64) := by kernel_rfl
theorem tyf26 : TyF Try.prog 26 (.int .i64 0) 1 8 := TyF.of (by kernel_rfl)
theorem tyf28 : TyF Try.prog 28 (.nilFunc) 1 8 := TyF.of (by kernel_rfl)
theorem tyf29 : TyF Try.prog 29 (.nilFunc) 1 8 := TyF.of (by kernel_rfl)
theorem tyf30 : TyF Try.prog 30 (.nilFunc) 1 8 := TyF.of (by kernel_rfl)
theorem tyf31 : TyF Try.prog 31 (.nilFunc) 1 8 := TyF.of (by kernel_rfl)
theorem tyf32 : TyF Try.prog 32 (.nilFunc) 1 8 := TyF.of (by kernel_rfl)
theorem tyf33 : TyF Try.prog 33 (.nilFunc) 1 8 := TyF.of (by kernel_rfl)
theorem tyf35 : TyF Try.prog 35 (.nilFunc) 1 8 := TyF.of (by kernel_rfl)
theorem tyf36 : TyF Try.prog 36 (.nilFunc) 1 8 := TyF.of (by kernel_rfl)
theorem tyf37 : TyF Try.prog 37 (.nilFunc) 1 8 := TyF.of (by kernel_rfl)
/- uint16 -/
theorem und38 : Try.prog.underlying 38 = some (.int .u16) := by kernel_rfl
theorem tyf38 : TyF Try.prog 38 (.int .u16 0) 1 2 := TyF.of (by kernel_rfl)
theorem tyf39 : TyF Try.prog 39 (.nilFunc) 1 8 := TyF.of (by kernel_rfl)
theorem tyf40 : TyF Try.prog 40 (.nilFunc) 1 8 := TyF.of (by kernel_rfl)
theorem tyf41 : TyF Try.prog 41 (.nilFunc) 1 8 := TyF.of (by kernel_rfl)
theorem tyf42 : TyF Try.prog 42 (.nilFunc) 1 8 := TyF.of (by kernel_rfl)
/- []string -/
theorem und43 : Try.prog.underlying 43 = some (.slice 9) := by kernel_rfl
theorem tyf43 : TyF Try.prog 43 (.slice none 0 0) 1 24 := TyF.of (by kernel_rfl)
theorem tyf44 : TyF Try.prog 44 (.nilFunc) 1 8 := TyF.of (by kernel_rfl)
theorem tyf45 : TyF Try.prog 45 (.nilFunc) 1 8 := TyF.of (by kernel_rfl)
theorem tyf46 : TyF Try.prog 46 (.nilFunc) 1 8 := TyF.of (by kernel_rfl)
/- []stooklaw14.Op -/
theorem und47 : Try.prog.underlying 47 = some (.slice 50) := by kernel_rfl
theorem tyf47 : TyF Try.prog 47 (.slice none 0 0) 1 24 := TyF.of (by kernel_rfl)
theorem tyf48 : TyF Try.prog 48 (.nilFunc) 1 8 := TyF.of (by kernel_rfl)
theorem tyf49 : TyF Try.prog 49 (.agg ⟨[.int .u8 0, .string (str []), .string (str []), .int .i64 0, .slice none 0 0]⟩) 5 72 := TyF.of (by kernel_rfl)
theorem tyf50 : TyF Try.prog 50 (.agg ⟨[.int .u8 0, .string (str []), .string (str []), .int .i64 0, .slice none 0 0]⟩) 5 72 := TyF.of (by kernel_rfl)
theorem tyf51 : TyF Try.prog 51 (.nilFunc) 1 8 := TyF.of (by kernel_rfl)
theorem tyf52 : TyF Try.prog 52 (.nilFunc) 1 8 := TyF.of (by kernel_rfl)
theorem tyf53 : TyF Try.prog 53 (.nilFunc) 1 8 := TyF.of (by kernel_rfl)
theorem tyf54 : TyF Try.prog 54 (.nilFunc) 1 8 := TyF.of (by kernel_rfl)
theorem tyf55 : TyF Try.prog 55 (.nilFunc) 1 8 := TyF.of (by kernel_rfl)
theorem tyf56 : TyF Try.prog 56 (.nilFunc) 1 8 := TyF.of (by kernel_rfl)
/- *stookref14.FS -/
theorem und57 : Try.prog.underlying 57 = some (.pointer 102) := by kernel_rfl
theorem tyf57 : TyF Try.prog 57 (.pointer none) 1 8 := TyF.of (by kernel_rfl)
theorem tyf59 : TyF Try.prog 59 (.nilFunc) 1 8 := TyF.of (by kernel_rfl)
theorem tyf60 : TyF Try.prog 60 (.nilFunc) 1 8 := TyF.of (by kernel_rfl)
theorem tyf61 : TyF Try.prog 61 (.nilFunc) 1 8 := TyF.of (by kernel_rfl)
theorem tyf62 : TyF Try.prog 62 (.nilFunc) 1 8 := TyF.of (by kernel_rfl)
theorem tyf63 : TyF Try.prog 63 (.nilFunc) 1 8 := TyF.of (by kernel_rfl)
theorem tyf64 : TyF Try.prog 64 (.nilFunc) 1 8 := TyF.of (by kernel_rfl)
theorem tyf65 : TyF Try.prog 65 (.nilFunc) 1 8 := TyF.of (by kernel_rfl)
theorem tyf66 : TyF Try.prog 66 (.nilFunc) 1 8 := TyF.of (by kernel_rfl)
theorem tyf67 : TyF Try.prog 67 (.nilFunc) 1 8 := TyF.of (by kernel_rfl)
theorem tyf68 : TyF Try.prog 68 (.nilFunc) 1 8 := TyF.of (by kernel_rfl)
/- map[int]*simfs.file -/
theorem und69 : Try.prog.underlying 69 = some (.map 3 79) := by kernel_rfl
theorem tyf69 : TyF Try.prog 69 (.map none) 1 8 := TyF.of (by kernel_rfl)
/- map[string]int -/
theorem und70 : Try.prog.underlying 70 = some (.map 9 3) := by kernel_rfl
theorem tyf70 : TyF Try.prog 70 (.map none) 1 8 := TyF.of (by kernel_rfl)
/- []simfs.move -/
theorem und71 : Try.prog.underlying 71 = some (.slice 85) := by kernel_rfl
theorem tyf71 : TyF Try.prog 71 (.slice none 0 0) 1 24 := TyF.of (by kernel_rfl)
theorem tyf72 : TyF Try.prog 72 (.agg ⟨[.bool false, .int .i64 0, .int .i64 0, .map none, .int .i64 0, .map none, .map none, .slice none 0 0, .int .i64 0, .int .i64 0, .bool false]⟩) 11 104 := TyF.of (by kernel_rfl)
theorem tyf73 : TyF Try.prog 73 (.agg ⟨[.bool false, .int .i64 0, .int .i64 0, .map none, .int .i64 0, .map none, .map none, .slice none 0 0, .int .i64 0, .int .i64 0, .bool false]⟩) 11 104 := TyF.of (by kernel_rfl)
theorem tyf75 : TyF Try.prog 75 (.nilFunc) 1 8 := TyF.of (by kernel_rfl)
theorem tyf76 : TyF Try.prog 76 (.nilFunc) 1 8 := TyF.of (by kernel_rfl)
theorem tyf77 : TyF Try.prog 77 (.nilFunc) 1 8 := TyF.of (by kernel_rfl)
/- *simfs.file -/
theorem und79 : Try.prog.underlying 79 = some (.pointer 82) := by kernel_rfl
theorem tyf79 : TyF Try.prog 79 (.pointer none) 1 8 := TyF.of (by kernel_rfl)
/- []simfs.change -/
theorem und80 : Try.prog.underlying 80 = some (.slice 90) := by kernel_rfl
theorem tyf80 : TyF Try.prog 80 (.slice none 0 0) 1 24 := TyF.of (by kernel_rfl)
theorem tyf81 : TyF Try.prog 81 (.agg ⟨[.slice none 0 0, .slice none 0 0, .slice none 0 0]⟩) 3 72 := TyF.of (by kernel_rfl)
theorem tyf82 : TyF Try.prog 82 (.agg ⟨[.slice none 0 0, .slice none 0 0, .slice none 0 0]⟩) 3 72 := TyF.of (by kernel_rfl)
theorem tyf83 : TyF Try.prog 83 (.nilFunc) 1 8 := TyF.of (by kernel_rfl)
theorem tyf84 : TyF Try.prog 84 (.agg ⟨[.int .i64 0, .string (str []), .string (str []), .int .i64 0]⟩) 4 48 := TyF.of (by kernel_rfl)
theorem tyf85 : TyF Try.prog 85 (.agg ⟨[.int .i64 0, .string (str []), .string (str []), .int .i64 0]⟩) 4 48 := TyF.of (by kernel_rfl)
theorem tyf87 : TyF Try.prog 87 (.nilFunc) 1 8 := TyF.of (by kernel_rfl)
theorem tyf88 : TyF Try.prog 88 (.nilFunc) 1 8 := TyF.of (by kernel_rfl)
theorem tyf89 : TyF Try.prog 89 (.agg ⟨[.bool false, .int .i64 0, .slice none 0 0]⟩) 3 40 := TyF.of (by kernel_rfl)
theorem tyf90 : TyF Try.prog 90 (.agg ⟨[.bool false, .int .i64 0, .slice none 0 0]⟩) 3 40 := TyF.of (by kernel_rfl)
theorem tyf91 : TyF Try.prog 91 (.nilFunc) 1 8 := TyF.of (by kernel_rfl)
/- uint64 -/
theorem und92 : Try.prog.underlying 92 = some (.int .u64) := by kernel_rfl
theorem tyf92 : TyF Try.prog 92 (.int .u64 0) 1 8 := TyF.of (by kernel_rfl)
theorem tyf93 : TyF Try.prog 93 (.nilFunc) 1 8 := TyF.of (by kernel_rfl)
theorem tyf94 : TyF Try.prog 94 (.nilFunc) 1 8 := TyF.of (by kernel_rfl)
theorem tyf95 : TyF Try.prog 95 (.nilFunc) 1 8 := TyF.of (by kernel_rfl)
theorem tyf96 : TyF Try.prog 96 (.nilFunc) 1 8 := TyF.of (by kernel_rfl)
theorem tyf97 : TyF Try.prog 97 (.nilFunc) 1 8 := TyF.of (by kernel_rfl)
/- []stookref14.file -/
theorem und98 : Try.prog.underlying 98 = some (.slice 110) := by kernel_rfl
theorem tyf98 : TyF Try.prog 98 (.slice none 0 0) 1 24 := TyF.of (by kernel_rfl)
/- []stookref14.entry -/
theorem und99 : Try.prog.underlying 99 = some (.slice 112) := by kernel_rfl
theorem tyf99 : TyF Try.prog 99 (.slice none 0 0) 1 24 := TyF.of (by kernel_rfl)
/- [][]stookref14.entry -/
theorem und100 : Try.prog.underlying 100 = some (.slice 99) := by kernel_rfl
theorem tyf100 : TyF Try.prog 100 (.slice none 0 0) 1 24 := TyF.of (by kernel_rfl)
theorem tyf101 : TyF Try.prog 101 (.agg ⟨[.int .i64 0, .slice none 0 0, .slice none 0 0, .slice none 0 0, .slice none 0 0, .int .i64 0, .int .i64 0, .bool false]⟩) 8 128 := TyF.of (by kernel_rfl)
theorem tyf102 : TyF Try.prog 102 (.agg ⟨[.int .i64 0, .slice none 0 0, .slice none 0 0, .slice none 0 0, .slice none 0 0, .int .i64 0, .int .i64 0, .bool false]⟩) 8 128 := TyF.of (by kernel_rfl)
theorem tyf103 : TyF Try.prog 103 (.nilFunc) 1 8 := TyF.of (by kernel_rfl)
/- *stookref14.taker -/
theorem und104 : Try.prog.underlying 104 = some (.pointer 106) := by kernel_rfl
theorem tyf104 : TyF Try.prog 104 (.pointer none) 1 8 := TyF.of (by kernel_rfl)
theorem tyf105 : TyF Try.prog 105 (.agg ⟨[.slice none 0 0, .int .i64 0]⟩) 2 32 := TyF.of (by kernel_rfl)
theorem tyf106 : TyF Try.prog 106 (.agg ⟨[.slice none 0 0, .int .i64 0]⟩) 2 32 := TyF.of (by kernel_rfl)
/- *stookref14.file -/
theorem und107 : Try.prog.underlying 107 = some (.pointer 110) := by kernel_rfl
theorem tyf107 : TyF Try.prog 107 (.pointer none) 1 8 := TyF.of (by kernel_rfl)
/- []stookref14.act -/
theorem und108 : Try.prog.underlying 108 = some (.slice 115) := by kernel_rfl
theorem tyf108 : TyF Try.prog 108 (.slice none 0 0) 1 24 := TyF.of (by kernel_rfl)
theorem tyf109 : TyF Try.prog 109 (.agg ⟨[.slice none 0 0, .slice none 0 0]⟩) 2 48 := TyF.of (by kernel_rfl)
theorem tyf110 : TyF Try.prog 110 (.agg ⟨[.slice none 0 0, .slice none 0 0]⟩) 2 48 := TyF.of (by kernel_rfl)
theorem tyf111 : TyF Try.prog 111 (.agg ⟨[.string (str []), .int .i64 0]⟩) 2 24 := TyF.of (by kernel_rfl)
theorem tyf112 : TyF Try.prog 112 (.agg ⟨[.string (str []), .int .i64 0]⟩) 2 24 := TyF.of (by kernel_rfl)
theorem tyf113 : TyF Try.prog 113 (.nilFunc) 1 8 := TyF.of (by kernel_rfl)
theorem tyf114 : TyF Try.prog 114 (.agg ⟨[.bool false, .int .i64 0, .slice none 0 0]⟩) 3 40 := TyF.of (by kernel_rfl)
theorem tyf115 : TyF Try.prog 115 (.agg ⟨[.bool false, .int .i64 0, .slice none 0 0]⟩) 3 40 := TyF.of (by kernel_rfl)
theorem tyf116 : TyF Try.prog 116 (.nilFunc) 1 8 := TyF.of (by kernel_rfl)
theorem tyf117 : TyF Try.prog 117 (.nilFunc) 1 8 := TyF.of (by kernel_rfl)
theorem tyf118 : TyF Try.prog 118 (.nilFunc) 1 8 := TyF.of (by kernel_rfl)
theorem tyf119 : TyF Try.prog 119 (.nilFunc) 1 8 := TyF.of (by kernel_rfl)
theorem tyf120 : TyF Try.prog 120 (.nilFunc) 1 8 := TyF.of (by kernel_rfl)
theorem tyf121 : TyF Try.prog 121 (.nilFunc) 1 8 := TyF.of (by kernel_rfl)
theorem tyf122 : TyF Try.prog 122 (.nilFunc) 1 8 := TyF.of (by kernel_rfl)
theorem tyf123 : TyF Try.prog 123 (.nilFunc) 1 8 := TyF.of (by kernel_rfl)
theorem tyf124 : TyF Try.prog 124 (.nilFunc) 1 8 := TyF.of (by kernel_rfl)
theorem tyf125 : TyF Try.prog 125 (.nilFunc) 1 8 := TyF.of (by kernel_rfl)
theorem tyf126 : TyF Try.prog 126 (.nilFunc) 1 8 := TyF.of (by kernel_rfl)
/- uint -/
theorem und127 : Try.prog.underlying 127 = some (.int .u64) := by kernel_rfl
theorem tyf127 : TyF Try.prog 127 (.int .u64 0) 1 8 := TyF.of (by kernel_rfl)
theorem tyf128 : TyF Try.prog 128 (.nilFunc) 1 8 := TyF.of (by kernel_rfl)
/- slices.sortedHint -/
theorem und129 : Try.prog.underlying 129 = some (.int .i64) := by kernel_rfl
theorem tyf129 : TyF Try.prog 129 (.int .i64 0) 1 8 := TyF.of (by kernel_rfl)
theorem tyf131 : TyF Try.prog 131 (.nilFunc) 1 8 := TyF.of (by kernel_rfl)
theorem tyf132 : TyF Try.prog 132 (.nilFunc) 1 8 := TyF.of (by kernel_rfl)
theorem tyf133 : TyF Try.prog 133 (.nilFunc) 1 8 := TyF.of (by kernel_rfl)
theorem tyf134 : TyF Try.prog 134 (.nilFunc) 1 8 := TyF.of (by kernel_rfl)
theorem tyf135 : TyF Try.prog 135 (.nilFunc) 1 8 := TyF.of (by kernel_rfl)
theorem tyf136 : TyF Try.prog 136 (.nilFunc) 1 8 := TyF.of (by kernel_rfl)
/- uint32 -/
theorem und137 : Try.prog.underlying 137 = some (.int .u32) := by kernel_rfl
theorem tyf137 : TyF Try.prog 137 (.int .u32 0) 1 4 := TyF.of (by kernel_rfl)
theorem tyf138 : TyF Try.prog 138 (.nilFunc) 1 8 := TyF.of (by kernel_rfl)
/- slices.xorshift -/
theorem und139 : Try.prog.underlying 139 = some (.int .u64) := by kernel_rfl
theorem tyf139 : TyF Try.prog 139 (.int .u64 0) 1 8 := TyF.of (by kernel_rfl)
theorem tyf140 : TyF Try.prog 140 (.nilFunc) 1 8 := TyF.of (by kernel_rfl)
theorem tyf141 : TyF Try.prog 141 (.nilFunc) 1 8 := TyF.of (by kernel_rfl)
theorem tyf142 : TyF Try.prog 142 (.nilFunc) 1 8 := TyF.of (by kernel_rfl)
/- *int -/
theorem und143 : Try.prog.underlying 143 = some (.pointer 3) := by kernel_rfl
theorem tyf143 : TyF Try.prog 143 (.pointer none) 1 8 := TyF.of (by kernel_rfl)
theorem tyf144 : TyF Try.prog 144 (.nilFunc) 1 8 := TyF.of (by kernel_rfl)
/- *slices.xorshift -/
theorem und145 : Try.prog.underlying 145 = some (.pointer 139) := by kernel_rfl
theorem tyf145 : TyF Try.prog 145 (.pointer none) 1 8 := TyF.of (by kernel_rfl)
theorem tyf147 : TyF Try.prog 147 (.nilFunc) 1 8 := TyF.of (by kernel_rfl)
theorem tyf148 : TyF Try.prog 148 (.nilFunc) 1 8 := TyF.of (by kernel_rfl)
theorem tyf149 : TyF Try.prog 149 (.agg ⟨[.pointer none, .pointer none, .pointer none, .string (str [])]⟩) 4 40 := TyF.of (by kernel_rfl)
theorem tyf150 : TyF Try.prog 150 (.agg ⟨[.pointer none, .pointer none, .pointer none, .string (str [])]⟩) 4 40 := TyF.of (by kernel_rfl)
theorem tyf151 : TyF Try.prog 151 (.agg ⟨[]⟩) 0 0 := TyF.of (by kernel_rfl)
theorem tyf152 : TyF Try.prog 152 (.agg ⟨[]⟩) 0 0 := TyF.of (by kernel_rfl)
theorem tyf153 : TyF Try.prog 153 (.agg ⟨[]⟩) 0 0 := TyF.of (by kernel_rfl)
/- abi.TFlag -/
theorem und154 : Try.prog.underlying 154 = some (.int .u8) := by kernel_rfl
theorem tyf154 : TyF Try.prog 154 (.int .u8 0) 1 1 := TyF.of (by kernel_rfl)
/- abi.Kind -/
theorem und155 : Try.prog.underlying 155 = some (.int .u8) := by kernel_rfl
theorem tyf155 : TyF Try.prog 155 (.int .u8 0) 1 1 := TyF.of (by kernel_rfl)
theorem tyf156 : TyF Try.prog 156 (.nilFunc) 1 8 := TyF.of (by kernel_rfl)
/- *uint8 -/
theorem und157 : Try.prog.underlying 157 = some (.pointer 5) := by kernel_rfl
theorem tyf157 : TyF Try.prog 157 (.pointer none) 1 8 := TyF.of (by kernel_rfl)
/- abi.NameOff -/
theorem und158 : Try.prog.underlying 158 = some (.int .i32) := by kernel_rfl
theorem tyf158 : TyF Try.prog 158 (.int .i32 0) 1 4 := TyF.of (by kernel_rfl)
/- abi.TypeOff -/
theorem und159 : Try.prog.underlying 159 = some (.int .i32) := by kernel_rfl
theorem tyf159 : TyF Try.prog 159 (.int .i32 0) 1 4 := TyF.of (by kernel_rfl)
theorem tyf160 : TyF Try.prog 160 (.agg ⟨[.int .u64 0, .int .u64 0, .int .u32 0, .int .u8 0, .int .u8 0, .int .u8 0, .int .u8 0, .nilFunc, .pointer none, .int .i32 0, .int .i32 0]⟩) 11 48 := TyF.of (by kernel_rfl)
theorem tyf161 : TyF Try.prog 161 (.agg ⟨[.int .u64 0, .int .u64 0, .int .u32 0, .int .u8 0, .int .u8 0, .int .u8 0, .int .u8 0, .nilFunc, .pointer none, .int .i32 0, .int .i32 0]⟩) 11 48 := TyF.of (by kernel_rfl)
end Go.Proofs

namespace Go.Proofs
open Go Go.Fx Go.Disk
set_option linter.unusedVariables false
set_option maxRecDepth 20000

theorem ready_ok {H : Heap} {p : Nat} {r : FsR} {K : Value → Heap → Prop} (hp : H[p]? = some (fsO r)) (hi : r.is = true)
    (hk : K (.int .i64 (if r.dead then 13 else 0)) H) : Fn 46 [.pointer (some ⟨p, 0, none⟩)] H K := by
  refine F46_ok _ ?_
  unfold F46
  simp only [cellH_mk, cellO_some, add_mk, size_upd, upd_upd, one_int, one_bool, one_string, one_pointer, one_slice, one_map, one_func, st1_some, stN_nil, stN_cons, StV_mk, StO_some, Ld_some, RtI_mk, RtB_mk, RtS_mk, RtP_mk, RtL_mk, RtM_mk, RtA_mk, RtT_mk, NilC_some, New_eq, At_eq, Ck_true, Rt0_mk, BrB_true, BrB_false, Nat.zero_add, List.length_cons, List.length_nil, List.getElem?_cons_zero, List.getElem?_cons_succ, List.set_cons_zero, List.set_cons_succ, List.getD_cons_zero, List.getD_cons_succ, Option.isNone_some, Option.isNone_none, Go.Disk.fsO, Go.Disk.fileO, Bool.false_eq_true, eq_self, Nat.reduceAdd, Nat.reduceSub, Nat.reduceMul, Nat.reduceLT, Nat.reduceLeDiff, Nat.reduceEqDiff, Int.reduceNeg, Int.reduceEq, Int.reduceNe, Int.reduceBEq, Int.reduceBNe, Int.reduceLT, Int.reduceLE, Int.reduceGT, Int.reduceAdd, reduceIte, Bool.not_true, Bool.not_false, decide_true, decide_false, ne_eq, not_false_eq_true, not_true_eq_false, hp, hi]
  cases hd : r.dead
  · rw [hd] at hk
    simp only [cellH_mk, cellO_some, add_mk, size_upd, upd_upd, one_int, one_bool, one_string, one_pointer, one_slice, one_map, one_func, st1_some, stN_nil, stN_cons, StV_mk, StO_some, Ld_some, RtI_mk, RtB_mk, RtS_mk, RtP_mk, RtL_mk, RtM_mk, RtA_mk, RtT_mk, NilC_some, New_eq, At_eq, Ck_true, Rt0_mk, BrB_true, BrB_false, Nat.zero_add, List.length_cons, List.length_nil, List.getElem?_cons_zero, List.getElem?_cons_succ, List.set_cons_zero, List.set_cons_succ, List.getD_cons_zero, List.getD_cons_succ, Option.isNone_some, Option.isNone_none, Go.Disk.fsO, Go.Disk.fileO, Bool.false_eq_true, eq_self, Nat.reduceAdd, Nat.reduceSub, Nat.reduceMul, Nat.reduceLT, Nat.reduceLeDiff, Nat.reduceEqDiff, Int.reduceNeg, Int.reduceEq, Int.reduceNe, Int.reduceBEq, Int.reduceBNe, Int.reduceLT, Int.reduceLE, Int.reduceGT, Int.reduceAdd, reduceIte, Bool.not_true, Bool.not_false, decide_true, decide_false, ne_eq, not_false_eq_true, not_true_eq_false]
    exact hk
  · rw [hd] at hk
    simp only [cellH_mk, cellO_some, add_mk, size_upd, upd_upd, one_int, one_bool, one_string, one_pointer, one_slice, one_map, one_func, st1_some, stN_nil, stN_cons, StV_mk, StO_some, Ld_some, RtI_mk, RtB_mk, RtS_mk, RtP_mk, RtL_mk, RtM_mk, RtA_mk, RtT_mk, NilC_some, New_eq, At_eq, Ck_true, Rt0_mk, BrB_true, BrB_false, Nat.zero_add, List.length_cons, List.length_nil, List.getElem?_cons_zero, List.getElem?_cons_succ, List.set_cons_zero, List.set_cons_succ, List.getD_cons_zero, List.getD_cons_succ, Option.isNone_some, Option.isNone_none, Go.Disk.fsO, Go.Disk.fileO, Bool.false_eq_true, eq_self, Nat.reduceAdd, Nat.reduceSub, Nat.reduceMul, Nat.reduceLT, Nat.reduceLeDiff, Nat.reduceEqDiff, Int.reduceNeg, Int.reduceEq, Int.reduceNe, Int.reduceBEq, Int.reduceBNe, Int.reduceLT, Int.reduceLE, Int.reduceGT, Int.reduceAdd, reduceIte, Bool.not_true, Bool.not_false, decide_true, decide_false, ne_eq, not_false_eq_true, not_true_eq_false]
    exact hk

theorem fails_ok {H : Heap} {C : Col} {k : Nat} {x : FsX} {D : Disk} {u : Nat} {K : Value → Heap → Prop} (hk : k ≠ 0) (h : FsAt H C k x D u) (ha : D.acts < 2 ^ 40) (hf : D.fuse < 2 ^ 63) (hd : D.dead = false)
    (hK : ∀ H', FsAt H' C k x D.blow u → Ev (at1 (k, 0)) H C H' C → K (.bool (D.fuse == 1)) H') : Fn 51 [.pointer (some ⟨x.p, 0, none⟩)] H K := by
  refine F51_ok _ ?_
  unfold F51
  have hp := h.hp
  have hl := lt_of_get hp
  obtain ⟨h1, h2⟩ := h.setP (D' := D.blow) (u' := u) hk rfl rfl rfl rfl
  have hK1 := hK _ h1 h2
  unfold FsX.r at hp hK1
  have hw : IntKind.wrap .i64 ((D.acts : Int) + 1) = ((D.blow.acts : Nat) : Int) := by
    rw [w64 (by omega) (by omega)]
    show _ = ((D.acts + 1 : Nat) : Int)
    omega
  simp only [cellH_mk, cellO_some, add_mk, size_upd, upd_upd, one_int, one_bool, one_string, one_pointer, one_slice, one_map, one_func, st1_some, stN_nil, stN_cons, StV_mk, StO_some, Ld_some, RtI_mk, RtB_mk, RtS_mk, RtP_mk, RtL_mk, RtM_mk, RtA_mk, RtT_mk, NilC_some, New_eq, At_eq, Ck_true, Rt0_mk, BrB_true, BrB_false, Nat.zero_add, List.length_cons, List.length_nil, List.getElem?_cons_zero, List.getElem?_cons_succ, List.set_cons_zero, List.set_cons_succ, List.getD_cons_zero, List.getD_cons_succ, Option.isNone_some, Option.isNone_none, Go.Disk.fsO, Go.Disk.fileO, Bool.false_eq_true, eq_self, Nat.reduceAdd, Nat.reduceSub, Nat.reduceMul, Nat.reduceLT, Nat.reduceLeDiff, Nat.reduceEqDiff, Int.reduceNeg, Int.reduceEq, Int.reduceNe, Int.reduceBEq, Int.reduceBNe, Int.reduceLT, Int.reduceLE, Int.reduceGT, Int.reduceAdd, reduceIte, Bool.not_true, Bool.not_false, decide_true, decide_false, ne_eq, not_false_eq_true, not_true_eq_false, hp]
  refine ⟨_, fun _ H h => h, ?_⟩
  simp only [cellH_mk, cellO_some, add_mk, size_upd, upd_upd, one_int, one_bool, one_string, one_pointer, one_slice, one_map, one_func, st1_some, stN_nil, stN_cons, StV_mk, StO_some, Ld_some, RtI_mk, RtB_mk, RtS_mk, RtP_mk, RtL_mk, RtM_mk, RtA_mk, RtT_mk, NilC_some, New_eq, At_eq, Ck_true, Rt0_mk, BrB_true, BrB_false, Nat.zero_add, List.length_cons, List.length_nil, List.getElem?_cons_zero, List.getElem?_cons_succ, List.set_cons_zero, List.set_cons_succ, List.getD_cons_zero, List.getD_cons_succ, Option.isNone_some, Option.isNone_none, Go.Disk.fsO, Go.Disk.fileO, Bool.false_eq_true, eq_self, Nat.reduceAdd, Nat.reduceSub, Nat.reduceMul, Nat.reduceLT, Nat.reduceLeDiff, Nat.reduceEqDiff, Int.reduceNeg, Int.reduceEq, Int.reduceNe, Int.reduceBEq, Int.reduceBNe, Int.reduceLT, Int.reduceLE, Int.reduceGT, Int.reduceAdd, reduceIte, Bool.not_true, Bool.not_false, decide_true, decide_false, ne_eq, not_false_eq_true, not_true_eq_false, hp, get_upd_self, hl]
  refine BrB_i (fun h => ?_) (fun h => ?_)
  · have h := of_decide_eq_true h
    simp only [cellH_mk, cellO_some, add_mk, size_upd, upd_upd, one_int, one_bool, one_string, one_pointer, one_slice, one_map, one_func, st1_some, stN_nil, stN_cons, StV_mk, StO_some, Ld_some, RtI_mk, RtB_mk, RtS_mk, RtP_mk, RtL_mk, RtM_mk, RtA_mk, RtT_mk, NilC_some, New_eq, At_eq, Ck_true, Rt0_mk, BrB_true, BrB_false, Nat.zero_add, List.length_cons, List.length_nil, List.getElem?_cons_zero, List.getElem?_cons_succ, List.set_cons_zero, List.set_cons_succ, List.getD_cons_zero, List.getD_cons_succ, Option.isNone_some, Option.isNone_none, Go.Disk.fsO, Go.Disk.fileO, Bool.false_eq_true, eq_self, Nat.reduceAdd, Nat.reduceSub, Nat.reduceMul, Nat.reduceLT, Nat.reduceLeDiff, Nat.reduceEqDiff, Int.reduceNeg, Int.reduceEq, Int.reduceNe, Int.reduceBEq, Int.reduceBNe, Int.reduceLT, Int.reduceLE, Int.reduceGT, Int.reduceAdd, reduceIte, Bool.not_true, Bool.not_false, decide_true, decide_false, ne_eq, not_false_eq_true, not_true_eq_false, hp, get_upd_self, hl]
    have e1 : IntKind.wrap .i64 ((D.fuse : Int) - 1) = ((D.blow.fuse : Nat) : Int) := by
      rw [w64 (by omega) (by omega)]
      show _ = ((D.fuse - 1 : Nat) : Int)
      omega
    have e2 : (((D.blow.fuse : Nat) : Int) == 0) = (D.fuse == 1) := by
      show (((D.fuse - 1 : Nat) : Int) == 0) = (D.fuse == 1)
      rw [Bool.eq_iff_iff]; simp only [beq_iff_eq]; omega
    rw [hw, e1, e2]
    exact hK1
  · have h := of_decide_eq_false h
    simp only [cellH_mk, cellO_some, add_mk, size_upd, upd_upd, one_int, one_bool, one_string, one_pointer, one_slice, one_map, one_func, st1_some, stN_nil, stN_cons, StV_mk, StO_some, Ld_some, RtI_mk, RtB_mk, RtS_mk, RtP_mk, RtL_mk, RtM_mk, RtA_mk, RtT_mk, NilC_some, New_eq, At_eq, Ck_true, Rt0_mk, BrB_true, BrB_false, Nat.zero_add, List.length_cons, List.length_nil, List.getElem?_cons_zero, List.getElem?_cons_succ, List.set_cons_zero, List.set_cons_succ, List.getD_cons_zero, List.getD_cons_succ, Option.isNone_some, Option.isNone_none, Go.Disk.fsO, Go.Disk.fileO, Bool.false_eq_true, eq_self, Nat.reduceAdd, Nat.reduceSub, Nat.reduceMul, Nat.reduceLT, Nat.reduceLeDiff, Nat.reduceEqDiff, Int.reduceNeg, Int.reduceEq, Int.reduceNe, Int.reduceBEq, Int.reduceBNe, Int.reduceLT, Int.reduceLE, Int.reduceGT, Int.reduceAdd, reduceIte, Bool.not_true, Bool.not_false, decide_true, decide_false, ne_eq, not_false_eq_true, not_true_eq_false, hp, get_upd_self, hl]
    have e1 : D.blow.fuse = D.fuse := by
      show D.fuse - 1 = D.fuse
      omega
    have e2 : (D.fuse == 1) = D.dead := by
      rw [hd]
      simp; omega
    have e3 : D.blow.dead = D.dead := e2
    rw [hw]
    rw [e2, e3, e1] at hK1
    exact hK1
end Go.Proofs
