/- A proof layer over heaps, and contracts of the printed functions; no statement of the seat is proved here. -/
import Derived.Calls
import Derived.Orders
import Derived.Still
import Derived.Wp
import Derived.Laws.Sem
import Derived.Tactics
import Derived.Laws.Strings
set_option linter.unusedVariables false
set_option linter.unusedSimpArgs false
set_option linter.unusedSectionVars false

namespace Go.Fx

abbrev Heap := Array Obj

def cellH (H : Heap) (a : Addr) : Option Value :=
  match H[a.block]? with
  | some (.cells c _ _) => if a.spot.isSome then none else c[a.off]?
  | _ => none
def shapeH (H : Heap) (r : Nat) : Option (TypeId × Nat) :=
  match H[r]? with
  | some (.cells c elem _) => some (elem, c.size)
  | _ => none
def frozenH (H : Heap) (a : Addr) : Bool :=
  match H[a.block]? with
  | some (.cells _ _ (lo, hi)) => lo ≤ a.off && a.off < hi
  | _ => false
def freezeH (H : Heap) (a : Addr) (n : Nat) : Heap :=
  if n = 0 then H else
  H.modify a.block fun
      | .cells c elem (lo, hi) => .cells c elem (if lo == hi then (a.off, a.off + n) else (min lo a.off, max hi (a.off + n)))
      | o => o
def setCellH (H : Heap) (a : Addr) (v : Value) : Heap :=
  H.modify a.block fun
      | .cells c elem frozen => .cells (if a.spot.isSome then c else c.setIfInBounds a.off v) elem frozen
      | o => o
def notCells : Obj → Bool
  | .cells .. => false
  | _ => true

theorem cellH_eq (w : World) (a : Addr) : w.cell? a = cellH w.heap a := rfl
theorem shapeH_eq (w : World) (r : Nat) : w.shape? r = shapeH w.heap r := rfl
theorem frozenH_eq (w : World) (a : Addr) : w.frozen? a = frozenH w.heap a := rfl
theorem freezeH_eq (w : World) (a : Addr) (n : Nat) : (w.freeze a n).heap = freezeH w.heap a n := by
  unfold World.freeze freezeH; split <;> rfl
theorem setCellH_eq (w : World) (a : Addr) (v : Value) : (w.setCell a v).heap = setCellH w.heap a v := rfl

/-- The demonic weakest precondition of a small computation, on heaps alone. -/
def wpH {α : Type} (P : Program) : Sem α → (α → Heap → Prop) → Heap → Prop
  | .pure a, K, H => K a H
  | .load _ a k, K, H => ∃ v, cellH H a = some v ∧ wpH P (k v) K H
  | .store _ a v k, K, H => v.oneCell = true ∧ (cellH H a).isSome = true ∧ frozenH H a = false ∧ wpH P k K (setCellH H a v)
  | .new o k, K, H => wpH P (k H.size) K (H.push o)
  | .shape r k, K, H => wpH P (k (shapeH H r)) K H
  | .freeze a n k, K, H => wpH P k K (freezeH H a n)
  | .frozen a k, K, H => wpH P (k (frozenH H a)) K H
  | .getObj r k, K, H => ∃ o, H[r]? = some o ∧ notCells o = true ∧ wpH P (k o) K H
  | .setObj r o k, K, H => (∃ o', H[r]? = some o' ∧ notCells o' = true) ∧ wpH P k K (H.setIfInBounds r o)
  | .choose q k, K, H => (q.forced = true → wpH P (k 0) K H) ∧ (q.forced = false → ∀ t, wpH P (k (q.cut t)) K H)
  | .sys _ _, _, _ => False
  | .program k, K, H => wpH P (k P) K H
  | .mark _ k, K, H => wpH P k K H
  | .halt _, _, _ => False

structure SameOut (w w' : World) : Prop where
  os : w'.os = w.os
  output : w'.output = w.output

theorem SameOut.refl (w : World) : SameOut w w := ⟨rfl, rfl⟩
theorem SameOut.trans {a b c : World} (h : SameOut a b) (h' : SameOut b c) : SameOut a c := ⟨h'.os.trans h.os, h'.output.trans h.output⟩

theorem wpH_run {α : Type} {P : Program} (s : Sem α) : ∀ {K : α → Heap → Prop} {H : Heap} {w : World}, wpH P s K H → w.heap = H →
    ∃ a w', s.run P w = .ok a w' ∧ SameOut w w' ∧ K a w'.heap := by
  induction s with
  | pure a => intro K H w h e; subst e; exact ⟨a, w, rfl, .refl _, h⟩
  | load m a k ih =>
    intro K H w h e; subst e
    obtain ⟨v, hv, h⟩ := h
    obtain ⟨x, w', hr, hs, hk⟩ := ih v h rfl
    exact ⟨x, w', by simp only [Sem.run, cellH_eq, hv]; exact hr, hs, hk⟩
  | store m a v k ih =>
    intro K H w h e; subst e
    obtain ⟨h1, h2, h3, h⟩ := h
    obtain ⟨x, w', hr, hs, hk⟩ := ih (w := w.setCell a v) h rfl
    obtain ⟨y, hy⟩ := Option.isSome_iff_exists.1 h2
    refine ⟨x, w', ?_, ⟨hs.os, hs.output⟩, hk⟩
    cases v <;> simp_all [Sem.run, Value.oneCell, cellH_eq, frozenH_eq]
  | new o k ih =>
    intro K H w h e; subst e
    obtain ⟨x, w', hr, hs, hk⟩ := ih _ (w := { w with heap := w.heap.push o }) h rfl
    exact ⟨x, w', hr, ⟨hs.os, hs.output⟩, hk⟩
  | shape r k ih =>
    intro K H w h e; subst e
    exact ih _ h rfl
  | freeze a n k ih =>
    intro K H w h e; subst e
    obtain ⟨x, w', hr, hs, hk⟩ := ih (w := w.freeze a n) h (freezeH_eq _ _ _)
    have e1 : (w.freeze a n).os = w.os := by unfold World.freeze; split <;> rfl
    have e2 : (w.freeze a n).output = w.output := by unfold World.freeze; split <;> rfl
    exact ⟨x, w', hr, ⟨hs.os.trans e1, hs.output.trans e2⟩, hk⟩
  | frozen a k ih =>
    intro K H w h e; subst e
    exact ih _ h rfl
  | getObj r k ih =>
    intro K H w h e; subst e
    obtain ⟨o, ho, hn, h⟩ := h
    obtain ⟨x, w', hr, hs, hk⟩ := ih o h rfl
    refine ⟨x, w', ?_, hs, hk⟩
    cases o <;> simp_all [Sem.run, notCells]
  | setObj r o k ih =>
    intro K H w h e; subst e
    obtain ⟨⟨o', ho, hn⟩, h⟩ := h
    obtain ⟨x, w', hr, hs, hk⟩ := ih (w := { w with heap := w.heap.setIfInBounds r o }) h rfl
    refine ⟨x, w', ?_, ⟨hs.os, hs.output⟩, hk⟩
    cases o' <;> simp_all [Sem.run, notCells]
  | choose q k ih =>
    intro K H w h e; subst e
    cases hq : q.forced with
    | true =>
      obtain ⟨x, w', hr, hs, hk⟩ := ih 0 (h.1 hq) rfl
      exact ⟨x, w', by simp only [Sem.run, hq, if_true]; exact hr, hs, hk⟩
    | false =>
      obtain ⟨x, w', hr, hs, hk⟩ := ih _ (w := { w with drawn := w.drawn + 1 }) (h.2 hq (w.tape w.drawn q)) rfl
      exact ⟨x, w', by simp only [Sem.run, hq]; exact hr, ⟨hs.os, hs.output⟩, hk⟩
  | sys c k ih => intro K H w h; exact h.elim
  | program k ih =>
    intro K H w h e; subst e
    exact ih P h rfl
  | mark m k ih =>
    intro K H w h e; subst e
    exact ih h rfl
  | halt h => intro K H w h; exact h.elim

theorem wpH_bind {α β : Type} {P : Program} (s : Sem α) (f : α → Sem β) : ∀ (K : β → Heap → Prop) (H : Heap),
    wpH P (s.bind f) K H ↔ wpH P s (fun a H => wpH P (f a) K H) H := by
  induction s with
  | pure a => intro K H; rfl
  | load m a k ih => intro K H; simp only [Sem.bind, wpH, ih]
  | store m a v k ih => intro K H; simp only [Sem.bind, wpH, ih]
  | new o k ih => intro K H; simp only [Sem.bind, wpH, ih]
  | shape r k ih => intro K H; simp only [Sem.bind, wpH, ih]
  | freeze a n k ih => intro K H; simp only [Sem.bind, wpH, ih]
  | frozen a k ih => intro K H; simp only [Sem.bind, wpH, ih]
  | getObj r k ih => intro K H; simp only [Sem.bind, wpH, ih]
  | setObj r o k ih => intro K H; simp only [Sem.bind, wpH, ih]
  | choose q k ih => intro K H; simp only [Sem.bind, wpH, ih]
  | sys c k ih => intro K H; simp only [Sem.bind, wpH]
  | program k ih => intro K H; simp only [Sem.bind, wpH, ih]
  | mark m k ih => intro K H; simp only [Sem.bind, wpH, ih]
  | halt h => intro K H; simp only [Sem.bind, wpH]

theorem wpH_mono {α : Type} {P : Program} (s : Sem α) : ∀ {K K' : α → Heap → Prop} {H : Heap}, (∀ a H, K a H → K' a H) → wpH P s K H → wpH P s K' H := by
  induction s with
  | pure a => intro K K' H hk h; exact hk _ _ h
  | load m a k ih => intro K K' H hk ⟨v, hv, h⟩; exact ⟨v, hv, ih v hk h⟩
  | store m a v k ih => intro K K' H hk ⟨h1, h2, h3, h⟩; exact ⟨h1, h2, h3, ih hk h⟩
  | new o k ih => intro K K' H hk h; exact ih _ hk h
  | shape r k ih => intro K K' H hk h; exact ih _ hk h
  | freeze a n k ih => intro K K' H hk h; exact ih hk h
  | frozen a k ih => intro K K' H hk h; exact ih _ hk h
  | getObj r k ih => intro K K' H hk ⟨o, h1, h2, h⟩; exact ⟨o, h1, h2, ih o hk h⟩
  | setObj r o k ih => intro K K' H hk ⟨h1, h⟩; exact ⟨h1, ih hk h⟩
  | choose q k ih => intro K K' H hk ⟨h1, h2⟩; exact ⟨fun e => ih _ hk (h1 e), fun e t => ih _ hk (h2 e t)⟩
  | sys c k ih => intro K K' H hk h; exact h.elim
  | program k ih => intro K K' H hk h; exact ih _ hk h
  | mark m k ih => intro K K' H hk h; exact ih hk h
  | halt h => intro K K' H hk h; exact h.elim


end Go.Fx

namespace Go.Fx
set_option linter.unusedVariables false

abbrev Fr := Nat → Value
def evF (fr : Fr) : Operand → Value
  | .tmp t => fr t
  | .const v => v
  | .global g => .pointer (some ⟨g, 0, none⟩)
  | .func f => .func (.func f) #[] #[]
def putF (fr : Fr) (d : Option Tmp) (v : Value) : Fr :=
  match d with
  | none => fr
  | some d => fun t => bif Nat.beq t d then v else fr t

/-- Has the program a body for this function? -/
def isFnB (P : Program) (f : FuncId) : Bool :=
  match P.funcs[f]? with
  | some fn => fn.body.isSome && !(fn.name == "runtime.NumGoroutine")
  | none => false

/-- A call, on heaps: whatever world has this heap, the call returns a value. -/
def FnH (P : Program) (f : FuncId) (args : Array Value) (H : Heap) (K : Value → Heap → Prop) : Prop :=
  isFnB P f = true ∧ ∀ w : World, w.heap = H → Calls P f args w fun e w' => ∃ v, e = .returned v ∧ SameOut w w' ∧ K v w'.heap

theorem FnH.mono {P : Program} {f : FuncId} {args : Array Value} {H : Heap} {K K' : Value → Heap → Prop}
    (h : FnH P f args H K) (hk : ∀ v H', K v H' → K' v H') : FnH P f args H K' :=
  ⟨h.1, fun w e => (h.2 w e).mono fun _ _ ⟨v, h1, h2, h3⟩ => ⟨v, h1, h2, hk _ _ h3⟩⟩

def nextH (P : Program) (K : Value → Heap → Prop) : Next → Heap → Prop
  | .value v, H => K v H
  | .skip, H => K undef H
  | .enter f args, H => FnH P f args H K
  | _, _ => False

/-! ## The shapes of a type's values -/
/-- A value of a scalar type, taken apart. -/
def asSc (d : Option TypeDesc) (v : Value) (K : Value → Prop) : Prop :=
  match d with
  | some (.int k) => ∃ i : Int, v = .int k i ∧ K (.int k i)
  | some .bool => ∃ b : Bool, v = .bool b ∧ K (.bool b)
  | some .string => ∃ s : ByteArray, v = .string s ∧ K (.string s)
  | some (.pointer _) => ∃ a : Option Addr, v = .pointer a ∧ K (.pointer a)
  | some (.slice _) => ∃ (a : Option Addr) (l c : Nat), v = .slice a l c ∧ K (.slice a l c)
  | some (.map _ _) => ∃ r : Option Nat, v = .map r ∧ K (.map r)
  | _ => K v

theorem asSc_imp {d : Option TypeDesc} {v : Value} {K : Value → Prop} (h : asSc d v K) : K v := by
  unfold asSc at h
  split at h
  · obtain ⟨i, rfl, h⟩ := h; exact h
  · obtain ⟨i, rfl, h⟩ := h; exact h
  · obtain ⟨i, rfl, h⟩ := h; exact h
  · obtain ⟨i, rfl, h⟩ := h; exact h
  · obtain ⟨a, l, c, rfl, h⟩ := h; exact h
  · obtain ⟨i, rfl, h⟩ := h; exact h
  · exact h

def cellTys (P : Program) : Nat → TypeId → List TypeId
  | 0, t => [t]
  | n + 1, t =>
    match P.underlying t with
    | some (.struct fs) => fs.toList.flatMap fun f => cellTys P n f.type
    | some (.array k e) => (List.replicate k (cellTys P n e)).flatten
    | _ => [t]

def asCells (P : Program) : List TypeId → Nat → List Value → (List Value → Prop) → Prop
  | [], _, _, K => K []
  | t :: ts, i, vs, K => asSc (P.underlying t) (vs.getD i undef) fun u => asCells P ts (Nat.succ i) vs fun us => K (u :: us)

theorem asCells_imp {P : Program} : ∀ {ts : List TypeId} {i : Nat} {vs : List Value} {K : List Value → Prop}, vs.length = i + ts.length → asCells P ts i vs K → K (vs.drop i)
  | [], i, vs, K, hl, h => by
    rw [List.drop_eq_nil_of_le (by simp at hl; omega)]
    exact h
  | t :: ts, i, vs, K, hl, h => by
    simp only [List.length_cons] at hl
    have := asCells_imp (i := i + 1) (by omega) (asSc_imp h)
    rw [List.drop_eq_getElem_cons (by omega)]
    have e : vs.getD i undef = vs[i]'(by omega) := by simp [List.getD, show i < vs.length from by omega]
    rw [e] at this
    exact this

def asOne (P : Program) (t : TypeId) (v : Value) (K : Value → Prop) : Prop :=
  match P.underlying t with
  | some (.struct _) | some (.array _ _) => ∃ vs, v = .agg ⟨vs⟩ ∧ vs.length = (cellTys P 9 t).length ∧ asCells P (cellTys P 9 t) 0 vs fun us => K (.agg ⟨us⟩)
  | d => asSc d v K

theorem asOne_imp {P : Program} {t : TypeId} {v : Value} {K : Value → Prop} (h : asOne P t v K) : K v := by
  unfold asOne at h
  split at h
  · obtain ⟨vs, rfl, hl, h⟩ := h; exact asCells_imp (by omega) h
  · obtain ⟨vs, rfl, hl, h⟩ := h; exact asCells_imp (by omega) h
  · exact asSc_imp h

def asTup (P : Program) : List TypeId → Nat → List Value → (List Value → Prop) → Prop
  | [], _, _, K => K []
  | t :: ts, i, vs, K => asOne P t (vs.getD i undef) fun u => asTup P ts (Nat.succ i) vs fun us => K (u :: us)

theorem asTup_imp {P : Program} : ∀ {ts : List TypeId} {i : Nat} {vs : List Value} {K : List Value → Prop}, vs.length = i + ts.length → asTup P ts i vs K → K (vs.drop i)
  | [], i, vs, K, hl, h => by
    rw [List.drop_eq_nil_of_le (by simp at hl; omega)]
    exact h
  | t :: ts, i, vs, K, hl, h => by
    simp only [List.length_cons] at hl
    have := asTup_imp (i := i + 1) (by omega) (asOne_imp h)
    rw [List.drop_eq_getElem_cons (by omega)]
    have e : vs.getD i undef = vs[i]'(by omega) := by simp [List.getD, show i < vs.length from by omega]
    rw [e] at this
    exact this

def asTuple (P : Program) (ts : List TypeId) (v : Value) (K : Value → Prop) : Prop :=
  ∃ vs, v = .tuple ⟨vs⟩ ∧ vs.length = ts.length ∧ asTup P ts 0 vs fun us => K (.tuple ⟨us⟩)

theorem asTuple_imp {P : Program} {ts : List TypeId} {v : Value} {K : Value → Prop} (h : asTuple P ts v K) : K v := by
  obtain ⟨vs, rfl, hl, h⟩ := h; exact asTup_imp (by omega) h

def asTy (P : Program) (t : TypeId) (v : Value) (K : Value → Prop) : Prop :=
  match P.underlying t with
  | some (.tuple ts) => match ts.toList with | [] => v = .tuple ⟨[]⟩ ∧ K (.tuple ⟨[]⟩) | l => asTuple P l v K
  | _ => asOne P t v K

theorem asTy_imp {P : Program} {t : TypeId} {v : Value} {K : Value → Prop} (h : asTy P t v K) : K v := by
  unfold asTy at h
  split at h
  · split at h
    · obtain ⟨rfl, h⟩ := h; exact h
    · exact asTuple_imp h
  · exact asOne_imp h

/-! ## The words of the printed functions -/
def If (b : Bool) (A B : Prop) : Prop := (b = true → A) ∧ (b = false → B)
def rowO (H : Heap) (a : Addr) : Nat → Nat → Option (List Value)
  | _, 0 => some []
  | i, n + 1 => match cellH H (a.add i) with | some v => (match rowO H a (Nat.succ i) n with | some vs => some (v :: vs) | none => none) | none => none
def rowV (H : Heap) (a : Addr) (n : Nat) : Option Value := (rowO H a 0 n).map fun vs => .agg ⟨vs⟩
def stL (H : Heap) (a : Addr) : Nat → List Value → (Heap → Prop) → Prop
  | _, [], K => K H
  | i, v :: vs, K => v.oneCell = true ∧ (cellH H (a.add i)).isSome = true ∧ frozenH H (a.add i) = false ∧ stL (setCellH H (a.add i) v) a (i + 1) vs K
/-- A small computation, whatever the tape. -/
def Sm (P : Program) (s : Sem Value) (H : Heap) (K : Value → Heap → Prop) : Prop := wpH P s K H
def SmU (P : Program) (s : Sem Unit) (H : Heap) (K : Heap → Prop) : Prop := wpH P s (fun _ H => K H) H
/-- What a small computation reads on this heap, leaving the world as it is. -/
def Rd (P : Program) (s : Sem Value) (H : Heap) (v : Value) : Prop := ∀ w : World, w.heap = H → s.run P w = .ok v w
def CallV (P : Program) (f : Value) (args : Array Value) (H : Heap) (K : Value → Heap → Prop) : Prop :=
  ∃ g first cap, f = .func (.func g) first cap ∧ FnH P g (first ++ args ++ cap) H K
def NextM (P : Program) (s : Sem Value) (H : Heap) (A : Heap → Prop) (B : Value → Value → Heap → Prop) : Prop :=
  wpH P s (fun v H' => (v = .tuple #[.bool false] ∧ A H') ∨ ∃ k x, v = .tuple #[.bool true, k, x] ∧ B k x H') H

inductive OpC where
  | pv (v : Value)
  | chk (c : Prop) (v : Value)
  | rd (R : Heap → Value → Prop) (as : Value → (Value → Prop) → Prop)
  | rx (ex : (Value → Prop) → Prop) (c : Value → Prop)
  | ef (f : Heap → (Value → Heap → Prop) → Prop)
  | bad

def OpC.go (c : OpC) (H : Heap) (K : Value → Heap → Prop) : Prop :=
  match c with
  | .pv v => K v H
  | .chk c v => c ∧ K v H
  | .rd R as => ∃ v, R H v ∧ as v fun u => K u H
  | .rx ex c => ex fun v => c v ∧ K v H
  | .ef f => f H K
  | .bad => False

def OpC.Sound (P : Program) (s : Sem Next) : OpC → Prop
  | .pv v => ∀ w, s.run P w = .ok (.value v) w
  | .chk c v => c → ∀ w, s.run P w = .ok (.value v) w
  | .rd R as => (∀ v K, as v K → K v) ∧ ∀ w v, R w.heap v → s.run P w = .ok (.value v) w
  | .rx ex c => (∀ Q, ex Q → ∃ v, Q v) ∧ ∀ w v, c v → s.run P w = .ok (.value v) w
  | .ef f => ∀ H K, f H K → wpH P s (nextH P K) H
  | .bad => True

def binC (P : Program) (op : BinOp) (t : TypeId) (x y : Operand) (a b : Value) : OpC :=
  let raw : OpC := .rd (Rd P (do eqGuard op t x y a b; binOp op t a b)) (asTy P t)
  let rawB : OpC := .rd (Rd P (do eqGuard op t x y a b; binOp op t a b)) (asSc (some .bool))
  match a with
  | .int k m =>
    match b with
    | .int k' n =>
      if k = k' then
        match op with
        | .add => .pv (.int k (k.wrap (m + n)))
        | .sub => .pv (.int k (k.wrap (m - n)))
        | .mul => .pv (.int k (k.wrap (m * n)))
        | .quo => .chk (n ≠ 0) (.int k (k.wrap (m.tdiv n)))
        | .rem => .chk (n ≠ 0) (.int k (m.tmod n))
        | .eql => .pv (.bool (m == n))
        | .neq => .pv (.bool (m != n))
        | .lss => .pv (.bool (m < n))
        | .leq => .pv (.bool (m ≤ n))
        | .gtr => .pv (.bool (m > n))
        | .geq => .pv (.bool (m ≥ n))
        | _ => raw
      else raw
    | _ => raw
  | .string s =>
    match b with
    | .string u =>
      match op with
      | .add => .chk (((s.size + u.size : Nat) : Int) ≤ IntKind.i64.max) (.string (s ++ u))
      | .eql => .pv (.bool (s.toList == u.toList))
      | .neq => .pv (.bool (!(s.toList == u.toList)))
      | .lss => .pv (.bool (Op.bytesLess s.toList u.toList))
      | .leq => .pv (.bool (Op.bytesLess s.toList u.toList || s.toList == u.toList))
      | .gtr => .pv (.bool (!(Op.bytesLess s.toList u.toList || s.toList == u.toList)))
      | .geq => .pv (.bool (!(Op.bytesLess s.toList u.toList)))
      | _ => raw
    | _ => raw
  | .pointer p =>
    match y with
    | .const _ =>
      match b with
      | .pointer none =>
        match P.underlying t with
        | some (.pointer _) =>
          match op with
          | .eql => .pv (.bool p.isNone)
          | .neq => .pv (.bool (!p.isNone))
          | _ => raw
        | _ => rawB
      | _ => rawB
    | _ => rawB
  | .bool p =>
    match b with
    | .bool q =>
      match P.underlying t with
      | some .bool =>
        match op with
        | .eql => .pv (.bool (p == q))
        | .neq => .pv (.bool (!(p == q)))
        | _ => raw
      | _ => rawB
    | _ => rawB
  | _ =>
    match op with
    | .eql | .neq => rawB
    | _ => raw

def unC (P : Program) (op : UnOp) (t : TypeId) (a : Value) : OpC :=
  match op, a with
  | .not, .bool b => .pv (.bool (!b))
  | .neg, .int k n => .pv (.int k (k.wrap (0 - n)))
  | op, a => .rd (Rd P (Op.unary op a)) (asTy P t)

/-- The bounds of a slice expression, where all are there or not. -/
def sliceC (len cap : Nat) (lo hi mx : Option Value) (K : (l h m : Int) → OpC) : OpC :=
  match lo, hi, mx with
  | none, none, none => K 0 len cap
  | some (.int _ l), none, none => K l len cap
  | none, some (.int _ h), none => K 0 h cap
  | some (.int _ l), some (.int _ h), none => K l h cap
  | none, some (.int _ h), some (.int _ m) => K 0 h m
  | some (.int _ l), some (.int _ h), some (.int _ m) => K l h m
  | _, _, _ => .bad

def lenC (P : Program) (argTypes : Array TypeId) (ty : TypeId) (x : Value) : OpC :=
  match argTypes[0]? with
  | some t =>
    match P.underlying t with
    | some .string => match x with | .string s => .pv (.int .i64 s.size) | _ => .bad
    | some (.slice _) => match x with | .slice _ n _ => .pv (.int .i64 n) | _ => .bad
    | some (.array n _) => .pv (.int .i64 n)
    | some (.map _ _) => .rd (Rd P (Builtin.len_ argTypes ty #[x])) (asSc (some (.int .i64)))
    | _ => .bad
  | none => .bad

def capC (P : Program) (argTypes : Array TypeId) (x : Value) : OpC :=
  match argTypes[0]? with
  | some t =>
    match P.underlying t with
    | some (.slice _) => match x with | .slice _ _ n => .pv (.int .i64 n) | _ => .bad
    | _ => .bad
  | none => .bad

def min2C (mn : Bool) (x y : Value) : OpC :=
  match x with
  | .int k a => match y with | .int _ b => .pv (.int k (if mn then (if b < a then b else a) else (if a < b then b else a))) | _ => .bad
  | _ => .bad

def retC (P : Program) (ty : TypeId) (K : Value → Heap → Prop) (v : Value) (H : Heap) : Prop :=
  asTy P ty v fun u => K u H

def callC (P : Program) (ev : Operand → Value) (ty : TypeId) (c : Call) : OpC :=
  match c.callee with
  | .value (.func f) => .ef fun H K => FnH P f ⟨c.args.toList.map ev⟩ H (retC P ty K)
  | .value x => .ef fun H K => CallV P (ev x) ⟨c.args.toList.map ev⟩ H (retC P ty K)
  | .invoke _ _ => .bad
  | .builtin b =>
    match b with
    | .len => match c.args.toList with | [x] => lenC P c.argTypes ty (ev x) | _ => .bad
    | .cap => match c.args.toList with | [x] => capC P c.argTypes (ev x) | _ => .bad
    | .min => match c.args.toList with | [x, y] => min2C true (ev x) (ev y) | _ => .bad
    | .max => match c.args.toList with | [x, y] => min2C false (ev x) (ev y) | _ => .bad
    | .append => .ef fun H K => Sm P (Builtin.append_ c.argTypes ty ⟨c.args.toList.map ev⟩) H (retC P ty K)
    | .copy => .ef fun H K => Sm P (Builtin.copy_ c.argTypes ty ⟨c.args.toList.map ev⟩) H (retC P ty K)
    | .delete => .ef fun H K => Sm P (Builtin.delete_ c.argTypes ty ⟨c.args.toList.map ev⟩) H (retC P ty K)
    | .clear => .ef fun H K => Sm P (Builtin.clear_ c.argTypes ty ⟨c.args.toList.map ev⟩) H (retC P ty K)
    | _ => .bad

def loadC (P : Program) (t : TypeId) (x : Value) : OpC :=
  match x with
  | .pointer (some a) =>
    match P.underlying t, P.info? t with
    | some (.struct _), some i | some (.array _ _), some i => .rd (fun H v => rowV H a i.size = some v) (asOne P t)
    | some _, some _ => .rd (fun H v => cellH H a = some v) (asOne P t)
    | _, _ => .bad
  | _ => .bad

def storeC (P : Program) (t : TypeId) (x v : Value) : OpC :=
  match x with
  | .pointer (some a) =>
    match P.info? t with
    | some i => .ef fun H K => v.cells.toList.length = i.size ∧ stL H a 0 v.cells.toList (K undef)
    | none => .bad
  | _ => .bad

def zeroC (P : Program) (t : TypeId) (K : Value → OpC) : OpC :=
  match P.info? t with
  | some i => match i.zero with | some z => K z | none => .bad
  | none => .bad

/-- The cells of a struct whose parts are laid in. -/
def fillL (place : Nat → Option (Nat × Nat)) (cells : List Value) : List (Nat × Value) → Option (List Value)
  | [] => some cells
  | p :: rest =>
    match place p.1 with
    | none => none
    | some q =>
      match Nat.beq p.2.cells.toList.length q.2 with
      | true =>
        match Nat.ble (Nat.add q.1 q.2) cells.length with
        | true => fillL place (cells.take q.1 ++ (p.2.cells.toList ++ cells.drop (Nat.add q.1 q.2))) rest
        | false => none
      | false => none

def buildC (P : Program) (t : TypeId) (parts : List (Nat × Value)) : OpC :=
  zeroC P t fun z =>
    match P.underlying t with
    | some (.struct fs) =>
      match fillL (fun i => (fs[i]?).bind fun f => (P.info? f.type).map fun j => (f.offset, j.size)) z.cells.toList parts with
      | some cells => match (fs.toList.all fun f => (P.info? f.type).isSome) with | true => .pv (.agg ⟨cells⟩) | false => .bad
      | none => .bad
    | _ => .bad

def opC (P : Program) (ev : Operand → Value) (o : Oper) : OpC :=
  match o.op with
  | .move x | .assign x => .pv (ev x)
  | .pick c a b =>
    match ev c with
    | .bool t => match t with | true => .pv (ev a) | false => .pv (ev b)
    | _ => .bad
  | .alloc t => zeroC P t fun z => .ef fun H K => K (.pointer (some ⟨H.size, 0, none⟩)) (H.push (.cells z.cells t))
  | .box t x => .ef fun H K => K (.pointer (some ⟨H.size, 0, none⟩)) (H.push (.cells (ev x).cells t))
  | .build t ps => buildC P t (ps.toList.map fun p => (p.1, ev p.2))
  | .buildSlice t n ps => .ef fun H K => Sm P (Instr.buildSlice t n ⟨ps.toList.map fun p => (p.1, ev p.2)⟩) H (retC P t K)
  | .load t x => loadC P t (ev x)
  | .store t x v => storeC P t (ev x) (ev v)
  | .nilCheck x =>
    match ev x with
    | .pointer y => .rx (fun R => ∃ a : Addr, R (.pointer (some a))) fun v => y.map (fun a => Value.pointer (some a)) = some v
    | _ => .bad
  | .binOp op t x y _ => binC P op t x y (ev x) (ev y)
  | .unOp op t x => unC P op t (ev x)
  | .convert s d x =>
    match P.underlying s, P.underlying d, ev x with
    | some _, some (.int k), .int _ n => .pv (.int k (k.wrap n))
    | some (.string), some (.string), .string s => .pv (.string s)
    | _, _, v => .ef fun H K => Sm P (convert s d v) H (retC P d K)
  | .makeInterface t x =>
    match P.underlying t with
    | some (.interface _) => .bad
    | some _ => .pv (.iface t (ev x))
    | none => .bad
  | .makeFunc fn first captured => .pv (.func fn ⟨first.toList.map ev⟩ ⟨captured.toList.map ev⟩)
  | .makeMap t r =>
    match r with
    | none => .ef fun H K => K (.map (some H.size)) (H.push (.map #[] 0))
    | some x =>
      match ev x, P.underlying t with
      | .int _ _, some (.map _ _) => .ef fun H K => K (.map (some H.size)) (H.push (.map #[] 0))
      | _, _ => .bad
  | .makeSlice t l c => .ef fun H K => Sm P (Instr.makeSlice t (ev l) (ev c)) H (retC P t K)
  | .slice t x lo hi mx =>
    match P.underlying t with
    | some .string =>
      match ev x with
      | .string s =>
        match mx with
        | none => sliceC s.size s.size (lo.map ev) (hi.map ev) none fun l h m => .chk (0 ≤ l ∧ l ≤ h ∧ h ≤ m ∧ m ≤ s.size) (.string (s.extract l.toNat h.toNat))
        | some _ => .bad
      | _ => .bad
    | some (.slice e) =>
      match ev x, P.info? e with
      | .slice a len cap, some i => sliceC len cap (lo.map ev) (hi.map ev) (mx.map ev) fun l h m =>
          .chk (0 ≤ l ∧ l ≤ h ∧ h ≤ m ∧ m ≤ cap) (.slice (if m.toNat = l.toNat then a else a.map (·.add (l.toNat * i.size))) (h.toNat - l.toNat) (m.toNat - l.toNat))
      | _, _ => .bad
    | _ => .ef fun H K => Sm P (Instr.sliceAt t (ev x) (lo.map ev) (hi.map ev) (mx.map ev)) H (retC P o.type K)
  | .fieldAddr s x f =>
    match P.underlying s with
    | some (.struct fs) =>
      match fs[f]? with
      | some fd =>
        match P.info? fd.type with
        | some i =>
          match Nat.beq i.size 0 with
          | true => .bad
          | false =>
            match ev x with
            | .pointer (some a) => .pv (.pointer (some (a.add fd.offset)))
            | _ => .bad
        | none => .bad
      | none => .bad
    | _ => .bad
  | .field t x f => .rd (Rd P (Instr.field t (ev x) f)) (asTy P o.type)
  | .indexAddr t x i =>
    match P.underlying t with
    | some (.slice e) =>
      match ev x, ev i, P.info? e with
      | .slice a len _, .int _ n, some j => .rx (fun R => ∃ b : Addr, R (.pointer (some b))) fun v =>
          (0 ≤ n ∧ n < len) ∧ a.map (fun b => Value.pointer (some (b.add (n.toNat * j.size)))) = some v
      | _, _, _ => .bad
    | some (.array len e) =>
      match ev x, ev i, P.info? e with
      | .pointer (some a), .int _ n, some j => .chk (0 ≤ n ∧ n < len) (.pointer (some (a.add (n.toNat * j.size))))
      | _, _, _ => .bad
    | _ => .bad
  | .index t x i =>
    match P.underlying t with
    | some .string =>
      match ev x, ev i with
      | .string s, .int _ n => .rx (fun R => ∃ c : UInt8, R (.int .u8 c.toNat)) fun v => 0 ≤ n ∧ (s[n.toNat]?).map (fun c => Value.int .u8 c.toNat) = some v
      | _, _ => .bad
    | _ => .rd (Rd P (Instr.index t (ev x) (ev i))) (asTy P o.type)
  | .lookup t x i ok => .rd (Rd P (Instr.lookup t (ev x) (ev i) ok)) (asTy P o.type)
  | .mapUpdate t m k x | .insert t m k x => .ef fun H K => SmU P (Instr.mapUpdate t (ev m) (ev k) (ev x)) H (K undef)
  | .mapEntry t m k =>
    match P.underlying t with
    | some (.map _ e) => .ef fun H K => Sm P (Instr.mapEntry t (ev m) (ev k)) H fun v H' =>
        ∃ vs, v = .tuple ⟨vs⟩ ∧ vs.length = 2 ∧ asOne P e (vs.getD 0 undef) fun x => asSc (some (.int .i64)) (vs.getD 1 undef) fun s => K (.tuple ⟨[x, s]⟩) H'
    | _ => .bad
  | .entryStore t m s x => .ef fun H K => SmU P (Instr.entryStore t (ev m) (ev s) (ev x)) H (K undef)
  | .range t x => .ef fun H K => Sm P (Instr.range t (ev x)) H (fun v H' => ∃ a : Addr, v = .pointer (some a) ∧ K (.pointer (some a)) H')
  | .next it s =>
    if s then .ef fun H K => Sm P (Instr.next (ev it) s o.type) H K
    else .ef fun H K => NextM P (Instr.next (ev it) s o.type) H (K (.tuple #[.bool false])) fun k x => K (.tuple #[.bool true, k, x])
  | .entry it => .rd (Rd P (Instr.entry (ev it))) (asTuple P [0, 0])
  | .extract t i =>
    match ev t with
    | .tuple vs => match vs.toList[i]? with | some v => .pv v | none => .bad
    | _ => .bad
  | .call c => callC P ev o.type c
  | _ => .bad

end Go.Fx

namespace Go.Fx
open Go

section
variable {P : Program}

theorem run_und {t : TypeId} {d : TypeDesc} (h : P.underlying t = some d) (w : World) : (underlying t).run P w = .ok d w := by
  simp [underlying, h]
theorem run_info {t : TypeId} {i : TypeInfo} (h : P.info? t = some i) (w : World) : (typeInfo t).run P w = .ok i w := by
  simp [typeInfo, h]
theorem run_size {t : TypeId} {i : TypeInfo} (h : P.info? t = some i) (w : World) : (sizeOf t).run P w = .ok i.size w := by
  simp [sizeOf, run_info h]
theorem run_zero {t : TypeId} {i : TypeInfo} {z : Value} (h : P.info? t = some i) (hz : i.zero = some z) (w : World) : (zeroValue t).run P w = .ok z w := by
  simp [zeroValue, run_info h, hz]
theorem info_of_und {t : TypeId} {d : TypeDesc} (h : P.underlying t = some d) : ∃ i, P.info? t = some i := by
  cases hi : P.info? t with
  | some i => exact ⟨i, rfl⟩
  | none => simp [Program.underlying, hi] at h

theorem wpH_bind' {α β : Type} (s : Sem α) (f : α → Sem β) (K : β → Heap → Prop) (H : Heap) :
    wpH P (s >>= f) K H = wpH P s (fun a H => wpH P (f a) K H) H := propext (wpH_bind s f K H)
theorem wpH_pure {α : Type} (a : α) (K : α → Heap → Prop) (H : Heap) : wpH P (pure a) K H = K a H := rfl
theorem wpH_map {α β : Type} (s : Sem α) (f : α → β) (K : β → Heap → Prop) (H : Heap) :
    wpH P (f <$> s) K H = wpH P s (fun a H => K (f a) H) H := propext (wpH_bind s _ K H)
theorem wpH_und {t : TypeId} {d : TypeDesc} (h : P.underlying t = some d) (K : TypeDesc → Heap → Prop) (H : Heap) : wpH P (underlying t) K H = K d H := by
  unfold underlying
  show wpH P (program >>= _) K H = _
  rw [wpH_bind']
  simp only [program, wpH, h]
  rfl
theorem wpH_info {t : TypeId} {i : TypeInfo} (h : P.info? t = some i) (K : TypeInfo → Heap → Prop) (H : Heap) : wpH P (typeInfo t) K H = K i H := by
  unfold typeInfo
  rw [wpH_bind']
  simp only [program, wpH, h]
  rfl
theorem wpH_size {t : TypeId} {i : TypeInfo} (h : P.info? t = some i) (K : Nat → Heap → Prop) (H : Heap) : wpH P (sizeOf t) K H = K i.size H := by
  unfold sizeOf
  rw [wpH_bind', wpH_info h, wpH_pure]
theorem wpH_zero {t : TypeId} {i : TypeInfo} {z : Value} (h : P.info? t = some i) (hz : i.zero = some z) (K : Value → Heap → Prop) (H : Heap) : wpH P (zeroValue t) K H = K z H := by
  unfold zeroValue
  rw [wpH_bind', wpH_info h, hz]
  rfl
theorem wpH_new (o : Obj) (K : Nat → Heap → Prop) (H : Heap) : wpH P (newObj o) K H = K H.size (H.push o) := rfl
theorem wpH_newVar (t : TypeId) (v : Value) (K : Addr → Heap → Prop) (H : Heap) : wpH P (newVar t v) K H = K ⟨H.size, 0, none⟩ (H.push (.cells v.cells t)) := rfl

theorem wpH_of_run {α : Type} {s : Sem α} {a : α} : (∀ w : World, s.run P w = .ok a w) → ∀ (K : α → Heap → Prop) (H : Heap), wpH P s K H → K a H := by
  intro h K H hk
  obtain ⟨x, w', hr, _, hx⟩ := wpH_run s (w := { (default : World) with heap := H }) hk rfl
  rw [h] at hr
  cases hr
  exact hx

/-- 'v s' and 'u s' of 'execOp'. -/
theorem run_v {s : Sem Value} {v : Value} {w w' : World} (h : s.run P w = .ok v w') : (do pure (Next.value (← s)) : Sem Next).run P w = .ok (.value v) w' := by
  simp [h]
theorem wpH_v {s : Sem Value} {K : Value → Heap → Prop} {H : Heap} (h : wpH P s K H) : wpH P (do pure (Next.value (← s)) : Sem Next) (nextH P K) H := by
  have := (wpH_bind (P := P) s (fun x => (Sem.pure (Next.value x) : Sem Next)) (nextH P K) H).2 (wpH_mono s (fun _ _ hk => hk) h)
  exact this
theorem wpH_u {s : Sem Unit} {K : Value → Heap → Prop} {H : Heap} (h : wpH P s (fun _ H => K undef H) H) : wpH P (do s; pure Next.skip : Sem Next) (nextH P K) H := by
  have := (wpH_bind (P := P) s (fun _ => (Sem.pure Next.skip : Sem Next)) (nextH P K) H).2 (wpH_mono s (fun _ _ hk => hk) h)
  exact this

theorem run_callFunc {f : FuncId} (h : isFnB P f = true) (args : Array Value) (w : World) : (callFunc f args).run P w = .ok (.enter f args) w := by
  unfold isFnB at h
  split at h
  · rename_i fn hf
    simp only [Bool.and_eq_true, Bool.not_eq_true'] at h
    have h2 : fn.body.isNone = false := by
      cases hb : fn.body <;> simp_all
    simp only [callFunc, Sem.run_bind, run_program, Result.andThen_ok, hf, h.2, h2, Bool.false_eq_true, if_false]
    rfl
  · cases h

theorem wpH_callFunc {f : FuncId} {args : Array Value} {K : Value → Heap → Prop} {H : Heap} (h : FnH P f args H K) : wpH P (callFunc f args) (nextH P K) H := by
  obtain ⟨h1, h2⟩ := h
  have h := h1
  unfold isFnB at h
  split at h
  · rename_i fn hf
    simp only [Bool.and_eq_true, Bool.not_eq_true'] at h
    have hb2 : fn.body.isNone = false := by
      cases hb : fn.body <;> simp_all
    show wpH P (callFunc f args) (nextH P K) H
    have e : callFunc f args = Sem.program fun p => (match p.funcs[f]? with
      | none => stuck "call: no such function"
      | some fn =>
        if fn.name == "runtime.NumGoroutine" then pure .numGoroutine
        else if fn.body.isNone then (do
          mark (.extern f)
          if let some e := Extern.findNext fn then return ← e args
          match Extern.find fn with
          | some e => pure (.value (← e args))
          | none =>
            if fn.name.endsWith ".init" && !fn.name.startsWith "(" && !fn.name.startsWith "gosem." then pure (.value (.tuple #[]))
            else unsupported (.extern fn.name))
        else pure (.enter f args)) := rfl
    rw [e]
    simp only [wpH, hf, h.2, hb2, Bool.false_eq_true, if_false]
    exact ⟨h1, h2⟩
  · cases h

theorem loadCellsFrom_run {a : Addr} {w : World} : ∀ (n i : Nat) (acc : Array Value) (vs : List Value), rowO w.heap a i n = some vs →
    (loadCellsFrom a i n acc).run P w = .ok (acc ++ vs.toArray) w
  | 0, _, _, vs, h => by simp only [rowO, Option.some.injEq] at h; subst h; simp [loadCellsFrom]
  | n + 1, i, acc, vs, h => by
    unfold rowO at h
    cases hv : cellH w.heap (a.add i) with
    | none => simp [hv] at h
    | some v =>
      cases hr : rowO w.heap a (i + 1) n with
      | none => simp [hv, hr] at h
      | some us =>
        simp only [hv, hr, Option.some.injEq] at h
        subst h
        have := loadCellsFrom_run n (i + 1) (acc.push v) us hr
        rw [← cellH_eq] at hv
        simp [loadCellsFrom, hv, this]

theorem loadC_sound {t : TypeId} {x : Value} : (loadC P t x).Sound P (do pure (.value (← Instr.loadAt t x))) := by
  have agg : ∀ {a : Addr} {i : TypeInfo} {w : World} {v : Value}, (isAgg t).run P w = .ok true w → P.info? t = some i → rowV w.heap a i.size = some v →
      (do pure (Next.value (← Instr.loadAt t (.pointer (some a)))) : Sem Next).run P w = .ok (.value v) w := by
    intro a i w v hg hi hv
    unfold rowV at hv
    cases hr : rowO w.heap a 0 i.size with
    | none => simp [hr] at hv
    | some vs =>
      simp only [hr, Option.map_some, Option.some.injEq] at hv
      subst hv
      refine run_v ?_
      have := loadCellsFrom_run (P := P) i.size 0 #[] vs hr
      simp [Instr.loadAt, Instr.sureAddr, loadVar, hg, run_size hi, loadCells, this]
  unfold loadC
  split
  · rename_i a
    split
    · rename_i fs i hu hi
      exact ⟨fun v K h => asOne_imp h, fun w v hv => agg (by simp [isAgg, run_und hu]) hi hv⟩
    · rename_i k e i hu hi
      exact ⟨fun v K h => asOne_imp h, fun w v hv => agg (by simp [isAgg, run_und hu]) hi hv⟩
    · rename_i d i h1 h2 hu hi
      refine ⟨fun v K h => asOne_imp h, fun w v hv => ?_⟩
      refine run_v ?_
      have hg : (isAgg t).run P w = .ok false w := by
        simp only [isAgg, Sem.run_bind, run_und hu, Result.andThen_ok]
        cases d <;> first | rfl | exact (h1 _ rfl).elim | exact (h2 _ _ rfl).elim
      have hv' : w.cell? a = some v := hv
      simp [Instr.loadAt, Instr.sureAddr, loadVar, hg, hv']
    · trivial
  · trivial

theorem storeCells_wp {a : Addr} {K : Heap → Prop} : ∀ (vs : List Value) (i : Nat) (H : Heap), stL H a i vs K → wpH P (storeCells a vs i) (fun _ H => K H) H
  | [], _, _, h => h
  | v :: vs, i, H, h => by
    obtain ⟨h1, h2, h3, h4⟩ := h
    exact ⟨h1, h2, h3, storeCells_wp vs (i + 1) _ h4⟩

theorem storeC_sound {t : TypeId} {x v : Value} : (storeC P t x v).Sound P (do Instr.storeAt t x v; pure .skip) := by
  unfold storeC
  split
  · rename_i a
    split
    · rename_i i hi
      intro H K h
      obtain ⟨h1, h2⟩ := h
      refine wpH_u ?_
      have h1' : v.cells.size = i.size := by simpa using h1
      simp only [Instr.storeAt, Instr.sureAddr, storeVar, wpH_bind', wpH_pure, wpH_size hi, h1', ne_eq, not_true_eq_false, if_false]
      exact storeCells_wp _ _ _ h2
    · trivial
  · trivial

theorem run_eqGuard_none {op : BinOp} {t : TypeId} {x y : Operand} {a b : Value} (w : World)
    (h : (match a, b with | .nilIface, .nilIface => false | .agg _, .agg _ => false | _, _ => true) = true) : (eqGuard op t x y a b).run P w = .ok () w := by
  unfold eqGuard
  by_cases ho : (!match op with | .eql | .neq => true | _ => false) = true
  · cases op <;> first | rfl | (simp at ho; done) | (cases a <;> cases b <;> first | rfl | cases h)
  · cases op <;> first | rfl | (simp at ho; done) | (cases a <;> cases b <;> first | rfl | cases h)

theorem run_equalIn_ptr_nil {t e : TypeId} (hu : P.underlying t = some (.pointer e)) (d : Nat) (p : Option Addr) (w : World) :
    (Op.equalIn (d + 1) t (.pointer p) (.pointer none)).run P w = .ok p.isNone w := by
  cases p <;> (simp only [Op.equalIn, Sem.run_bind, run_und hu, Result.andThen_ok]; rfl)
theorem run_equalIn_bool {t : TypeId} (hu : P.underlying t = some .bool) (d : Nat) (p q : Bool) (w : World) :
    (Op.equalIn (d + 1) t (.bool p) (.bool q)).run P w = .ok (p == q) w := by
  simp only [Op.equalIn, Sem.run_bind, run_und hu, Result.andThen_ok]; rfl
theorem run_equal_ptr_nil {t e : TypeId} (hu : P.underlying t = some (.pointer e)) (p : Option Addr) (w : World) :
    (Op.equal t (.pointer p) (.pointer none)).run P w = .ok p.isNone w := run_equalIn_ptr_nil hu 9999 p w
theorem run_equal_bool {t : TypeId} (hu : P.underlying t = some .bool) (p q : Bool) (w : World) :
    (Op.equal t (.bool p) (.bool q)).run P w = .ok (p == q) w := run_equalIn_bool hu 9999 p q w

theorem run_bin {op : BinOp} {t : TypeId} {x y : Operand} {a b v : Value} (w : World)
    (h : (match a, b with | .nilIface, .nilIface => false | .agg _, .agg _ => false | _, _ => true) = true) (hb : (binOp op t a b).run P w = .ok v w) :
    (do pure (Next.value (← (do eqGuard op t x y a b; binOp op t a b))) : Sem Next).run P w = .ok (.value v) w := by
  refine run_v ?_
  simp [run_eqGuard_none w h, hb]

theorem binC_sound {op : BinOp} {t : TypeId} {x y : Operand} {a b : Value} :
    (binC P op t x y a b).Sound P (do pure (Next.value (← (do eqGuard op t x y a b; binOp op t a b)))) := by
  have raw : (OpC.rd (Rd P (do eqGuard op t x y a b; binOp op t a b)) (asTy P t)).Sound P (do pure (Next.value (← (do eqGuard op t x y a b; binOp op t a b)))) :=
    ⟨fun v K h => asTy_imp h, fun w v hv => run_v (hv w rfl)⟩
  have rawB : (OpC.rd (Rd P (do eqGuard op t x y a b; binOp op t a b)) (asSc (some .bool))).Sound P (do pure (Next.value (← (do eqGuard op t x y a b; binOp op t a b)))) :=
    ⟨fun v K h => asSc_imp h, fun w v hv => run_v (hv w rfl)⟩
  unfold binC
  dsimp only
  cases a with
  | int k m =>
    cases b with
    | int k' n =>
      dsimp only
      split
      · rename_i hk
        subst hk
        cases op <;> dsimp only <;> first
          | exact raw
          | (intro w; refine run_bin w rfl ?_; simp [binOp, Op.intArith, Op.intCmp]; done)
          | (intro hc w; refine run_bin w rfl ?_; simp only [binOp]; simp [Op.intDiv, hc]; done)
      · exact raw
    | _ => exact raw
  | string s =>
    cases b with
    | string u =>
      cases op <;> dsimp only <;> first
        | exact raw
        | (intro w; refine run_bin w rfl ?_; simp [binOp, Op.stringOp]; done)
        | (intro hc w; refine run_bin w rfl ?_; simp only [binOp, Op.stringOp]; rw [if_neg (by omega)]; rfl)
    | _ => exact raw
  | pointer p =>
    dsimp only
    cases y with
    | const c =>
      dsimp only
      split
      · split
        · rename_i e hu
          cases op <;> dsimp only <;> first
            | exact raw
            | (intro w; refine run_bin w rfl ?_; simp only [binOp, Sem.run_bind, run_equal_ptr_nil hu, Result.andThen_ok]; rfl)
        · exact rawB
      · exact rawB
    | _ => exact rawB
  | bool p =>
    cases b with
    | bool q =>
      dsimp only
      split
      · rename_i hu
        cases op <;> dsimp only <;> first
          | exact raw
          | (intro w; refine run_bin w rfl ?_; simp only [binOp, Sem.run_bind, run_equal_bool hu, Result.andThen_ok]; rfl)
      · exact rawB
    | _ => exact rawB
  | _ => cases op <;> dsimp only <;> first | exact raw | exact rawB

theorem unC_sound {op : UnOp} {t : TypeId} {a : Value} : (unC P op t a).Sound P (do pure (Next.value (← Op.unary op a))) := by
  unfold unC
  split
  · intro w; exact run_v (by simp [Op.unary])
  · intro w; exact run_v (by simp [Op.unary, Op.intArith])
  · exact ⟨fun v K h => asTy_imp h, fun w v hv => run_v (hv w rfl)⟩

theorem zeroC_sound {t : TypeId} {K : Value → OpC} {s : Sem Next} (h : ∀ i z, P.info? t = some i → i.zero = some z → (K z).Sound P s) : (zeroC P t K).Sound P s := by
  unfold zeroC
  split
  · rename_i i hi
    split
    · rename_i z hz
      exact h i z hi hz
    · trivial
  · trivial

theorem splice_one : ∀ (vs : List Value) (off : Nat) (cells : List Value), off + vs.length ≤ cells.length →
    (vs.zipIdx.foldl (fun (cs : Array Value) (p : Value × Nat) => cs.setIfInBounds (off + p.2) p.1) cells.toArray) = (cells.take off ++ (vs ++ cells.drop (off + vs.length))).toArray := by
  intro vs
  suffices h : ∀ (vs : List Value) (off k : Nat) (cells : List Value), off + k + vs.length ≤ cells.length →
      ((vs.zipIdx k).foldl (fun (cs : Array Value) (p : Value × Nat) => cs.setIfInBounds (off + p.2) p.1) cells.toArray) = (cells.take (off + k) ++ (vs ++ cells.drop (off + k + vs.length))).toArray by
    intro off cells hc
    exact h vs off 0 cells hc
  clear vs
  intro vs
  induction vs with
  | nil => intro off k cells _; simp
  | cons v vs ih =>
    intro off k cells hc
    simp only [List.length_cons] at hc
    simp only [List.zipIdx_cons, List.foldl_cons]
    have e1 : cells.toArray.setIfInBounds (off + k) v = (cells.set (off + k) v).toArray := by simp
    rw [e1, ih off (k + 1) _ (by simp; omega)]
    congr 1
    simp only [List.length_cons]
    rw [List.drop_set_of_lt (by omega), show off + (k + 1) = off + k + 1 from by omega, show off + k + 1 + vs.length = off + k + (vs.length + 1) from by omega]
    rw [List.take_add_one]
    simp [List.take_set_of_le, show off + k < cells.length from by omega]

theorem fillL_fill {f : Nat → Option (Nat × Nat)} : ∀ (ps : List (Nat × Value)) (cells r : List Value), fillL f cells ps = some r → Instr.fill f cells.toArray ps = some r.toArray
  | [], cells, r, h => by simp only [fillL, Option.some.injEq] at h; subst h; rfl
  | p :: ps, cells, r, h => by
    obtain ⟨i, v⟩ := p
    unfold fillL at h
    cases hf : f i with
    | none => simp [hf] at h
    | some q =>
      obtain ⟨off, size⟩ := q
      simp only [hf] at h
      split at h
      · rename_i h1
        split at h
        · rename_i h2
          have h1 : v.cells.toList.length = size := Nat.eq_of_beq_eq_true h1
          have h2 : off + size ≤ cells.length := Nat.le_of_ble_eq_true h2
          have h1' : v.cells.size = size := by simpa using h1
          unfold Instr.fill
          simp only [hf]
          rw [if_neg (by simp [h1']; omega)]
          have := splice_one v.cells.toList off cells (by rw [h1]; exact h2)
          have e : (v.cells.zipIdx.foldl (fun cs (p : Value × Nat) => cs.setIfInBounds (off + p.2) p.1) cells.toArray) = (cells.take off ++ (v.cells.toList ++ cells.drop (off + size))).toArray := by
            rw [← h1, ← this, ← Array.foldl_toList, Array.toList_zipIdx]
          exact (congrArg (fun x => Instr.fill f x ps) e).trans (fillL_fill ps _ r h)
        · cases h
      · cases h

theorem mapM_places (l : List Field) (h : (l.all fun f => (P.info? f.type).isSome) = true) (w : World) :
    ((l.mapM fun f => (do pure (f.offset, ← sizeOf f.type) : Sem (Nat × Nat))).run P w) = .ok (l.map fun f => (f.offset, ((P.info? f.type).map (·.size)).getD 0)) w := by
  induction l with
  | nil => rfl
  | cons f l ih =>
    simp only [List.all_cons, Bool.and_eq_true] at h
    obtain ⟨i, hi⟩ := Option.isSome_iff_exists.1 h.1
    simp only [List.mapM_cons, Sem.run_bind, run_size hi, Result.andThen_ok, Sem.run_pure, ih h.2, List.map_cons, hi, Option.map_some, Option.getD_some]

theorem buildC_sound {t : TypeId} {parts : Array (Nat × Value)} : (buildC P t parts.toList).Sound P (do pure (Next.value (← Instr.build t parts))) := by
  unfold buildC
  refine zeroC_sound fun i z hi hz => ?_
  split
  · rename_i fs hu
    split
    · rename_i cells hc
      split
      · rename_i hall
        intro w
        refine run_v ?_
        have hm := mapM_places (P := P) fs.toList hall w
        simp only [Instr.build, Sem.run_bind, run_zero hi hz, run_und hu, Result.andThen_ok]
        rw [Array.mapM_eq_mapM_toList]
        simp only [Sem.run_map, hm, Result.andThen_ok]
        have e0 := fillL_fill _ _ _ hc
        have e : Instr.fill (fun x => (fs.toList.map fun f => (f.offset, ((P.info? f.type).map (·.size)).getD 0)).toArray[x]?) z.cells parts.toList = some ⟨cells⟩ := by
          have e0' : z.cells.toList.toArray = z.cells := by simp
          rw [e0'] at e0
          rw [← e0]
          congr 1
          funext x
          simp only [List.getElem?_toArray, List.getElem?_map]
          cases hx : fs[x]? with
          | none =>
            have : fs.toList[x]? = none := by simpa using hx
            simp [this]
          | some f =>
            have h2 : fs.toList[x]? = some f := by simpa using hx
            have h3 := List.all_eq_true.1 hall f (List.mem_of_getElem? h2)
            obtain ⟨j, hj⟩ := Option.isSome_iff_exists.1 h3
            simp [h2, hj]
        simp only [e]
        rfl
      · trivial
    · trivial
  · trivial

end
end Go.Fx

namespace Go.Fx
set_option linter.unusedVariables false
open Go

section
variable {P : Program}

theorem OpC.Sound.rdV {ty : TypeId} {s : Sem Value} : (OpC.rd (Rd P s) (asTy P ty)).Sound P (do pure (Next.value (← s))) :=
  ⟨fun v K h => asTy_imp h, fun w v hv => run_v (hv w rfl)⟩

theorem retC_imp {ty : TypeId} {K : Value → Heap → Prop} {v : Value} {H : Heap} (h : retC P ty K v H) : K v H := asTy_imp (K := fun u => K u H) h

theorem OpC.Sound.sm {ty : TypeId} {s : Sem Value} : (OpC.ef fun H K => Sm P s H (retC P ty K)).Sound P (do pure (Next.value (← s))) :=
  fun _ _ h => wpH_v (wpH_mono s (fun _ _ h => retC_imp h) h)
theorem OpC.Sound.smU {s : Sem Unit} : (OpC.ef fun H K => SmU P s H (K undef)).Sound P (do s; pure Next.skip) :=
  fun _ _ h => wpH_u h

theorem run_sliceBound {k : IntKind} {i : Int} {y : Nat} {c : BoundsCode} (h0 : 0 ≤ i) (h : i ≤ y) (w : World) :
    (Instr.sliceBound (.int k i) y c).run P w = .ok i.toNat w := by
  unfold Instr.sliceBound
  simp [asIntOf, h0, h]

theorem sliceC_sound {len cap : Nat} {lo hi mx : Option Value} {K : (l h m : Int) → OpC} {s : Sem Next}
    (hK : ∀ l h m : Int, (0 ≤ l ∧ l ≤ h ∧ h ≤ m ∧ m ≤ cap → ∀ (b : Bool) (w : World), (Instr.sliceBounds b len cap lo hi mx).run P w = .ok (l.toNat, h.toNat, m.toNat) w) → (K l h m).Sound P s) :
    (sliceC len cap lo hi mx K).Sound P s := by
  unfold sliceC
  split
  · exact hK _ _ _ fun _ b w => by simp [Instr.sliceBounds]
  · rename_i k l
    refine hK _ _ _ fun h b w => ?_
    have h1 := run_sliceBound (P := P) (k := k) (c := .sliceB) (y := len) h.1 (by omega) w
    simp [Instr.sliceBounds, h1]
  · rename_i k h
    refine hK _ _ _ fun hh b w => ?_
    have h1 := fun c => run_sliceBound (P := P) (k := k) (i := h) (c := c) (y := cap) (by omega) (by omega) w
    simp [Instr.sliceBounds, h1]
  · rename_i k l k' h
    refine hK _ _ _ fun hh b w => ?_
    have h1 := fun c => run_sliceBound (P := P) (k := k') (i := h) (c := c) (y := cap) (by omega) (by omega) w
    have h2 := fun c => run_sliceBound (P := P) (k := k) (i := l) (c := c) (y := h.toNat) (by omega) (by omega) w
    simp [Instr.sliceBounds, h1, h2]
  · rename_i k h k' m
    refine hK _ _ _ fun hh b w => ?_
    have h1 := fun c => run_sliceBound (P := P) (k := k') (i := m) (c := c) (y := cap) (by omega) (by omega) w
    have h2 := fun c => run_sliceBound (P := P) (k := k) (i := h) (c := c) (y := m.toNat) (by omega) (by omega) w
    simp [Instr.sliceBounds, h1, h2]
  · rename_i k l k' h k'' m
    refine hK _ _ _ fun hh b w => ?_
    have h1 := fun c => run_sliceBound (P := P) (k := k'') (i := m) (c := c) (y := cap) (by omega) (by omega) w
    have h2 := fun c => run_sliceBound (P := P) (k := k') (i := h) (c := c) (y := m.toNat) (by omega) (by omega) w
    have h3 := fun c => run_sliceBound (P := P) (k := k) (i := l) (c := c) (y := h.toNat) (by omega) (by omega) w
    simp [Instr.sliceBounds, h1, h2, h3]
  · trivial

theorem lenC_sound {argTypes : Array TypeId} {ty : TypeId} {x : Value} : (lenC P argTypes ty x).Sound P (do pure (Next.value (← Builtin.len_ argTypes ty #[x]))) := by
  unfold lenC
  split
  · rename_i t ht
    split
    · rename_i hu
      split
      · intro w; exact run_v (by simp [Builtin.len_, ht, run_und hu, goInt])
      · trivial
    · rename_i e hu
      split
      · intro w; exact run_v (by simp [Builtin.len_, ht, run_und hu, goInt])
      · trivial
    · rename_i n e hu
      intro w; exact run_v (by simp [Builtin.len_, ht, run_und hu, goInt])
    · exact ⟨fun v K h => asSc_imp h, fun w v hv => run_v (hv w rfl)⟩
    · trivial
  · trivial

theorem capC_sound {argTypes : Array TypeId} {ty : TypeId} {x : Value} : (capC P argTypes x).Sound P (do pure (Next.value (← Builtin.cap_ argTypes ty #[x]))) := by
  unfold capC
  split
  · rename_i t ht
    split
    · rename_i hu
      split
      · intro w; exact run_v (by simp [Builtin.cap_, ht, run_und hu, goInt])
      · trivial
    · trivial
  · trivial

theorem minC_sound {argTypes : Array TypeId} {ty : TypeId} {x y : Value} : (min2C true x y).Sound P (do pure (Next.value (← Builtin.min_ argTypes ty #[x, y]))) := by
  unfold min2C
  split
  · split
    · intro w; exact run_v (by simp [Builtin.min_, Builtin.min2])
    · trivial
  · trivial

theorem maxC_sound {argTypes : Array TypeId} {ty : TypeId} {x y : Value} : (min2C false x y).Sound P (do pure (Next.value (← Builtin.max_ argTypes ty #[x, y]))) := by
  unfold min2C
  split
  · split
    · intro w; exact run_v (by simp [Builtin.max_, Builtin.max2])
    · trivial
  · trivial

theorem map_list {α β : Type} (f : α → β) (l : Array α) : (⟨l.toList.map f⟩ : Array β) = l.map f := by
  rw [← Array.toList_inj]; simp

theorem callC_sound {ev : Operand → Value} {ty : TypeId} {c : Call} (hev : ∀ f, ev (.func f) = .func (.func f) #[] #[]) :
    (callC P ev ty c).Sound P (do let d ← resolve ev c ty; invoke d.target d.args) := by
  obtain ⟨callee, args, argTypes⟩ := c
  unfold callC
  dsimp only
  rw [map_list]
  cases callee with
  | value x =>
    have key : ∀ (g : FuncId) (first cap : Array Value) (H : Heap) (K : Value → Heap → Prop), ev x = .func (.func g) first cap → FnH P g (first ++ args.map ev ++ cap) H (retC P ty K) →
        wpH P (do let d ← resolve ev ⟨.value x, args, argTypes⟩ ty; invoke d.target d.args) (nextH P K) H := by
      intro g first cap H K hx h
      simp only [resolve, hx, Deferred.ofValue, pure_bind, invoke]
      exact wpH_callFunc (h.mono fun _ _ h => retC_imp h)
    cases x with
    | func f => exact fun H K h => key f #[] #[] H K (hev f) (by simpa using h)
    | tmp t => exact fun H K h => let ⟨g, first, cap, hx, h⟩ := h; key g first cap H K hx h
    | const t => exact fun H K h => let ⟨g, first, cap, hx, h⟩ := h; key g first cap H K hx h
    | global t => exact fun H K h => let ⟨g, first, cap, hx, h⟩ := h; key g first cap H K hx h
  | invoke r m => trivial
  | builtin b =>
    have one : ∀ x, args.toList = [x] → args.map ev = #[ev x] := fun x h => by
      rw [← Array.toList_inj]; simp [h]
    have two : ∀ x y, args.toList = [x, y] → args.map ev = #[ev x, ev y] := fun x y h => by
      rw [← Array.toList_inj]; simp [h]
    cases b <;> simp only [resolve, pure_bind, invoke, builtin] <;> first
      | trivial
      | exact OpC.Sound.sm
      | (split
         · rename_i x hx; rw [one x hx]; exact lenC_sound
         · trivial)
      | (split
         · rename_i x hx; rw [one x hx]; exact capC_sound
         · trivial)
      | (split
         · rename_i x y hx; rw [two x y hx]; exact minC_sound
         · trivial)
      | (split
         · rename_i x y hx; rw [two x y hx]; exact maxC_sound
         · trivial)

theorem opC_sound {ev : Operand → Value} (hev : ∀ f, ev (.func f) = .func (.func f) #[] #[]) (o : Oper) : (opC P ev o).Sound P (execOp ev o) := by
  obtain ⟨dst, op, type, pos, after, guard⟩ := o
  unfold opC
  cases op <;> dsimp only [execOp]
  case move x => intro w; rfl
  case assign x => intro w; rfl
  case pick c a b =>
    split
    · rename_i t ht
      cases t <;> (intro w; simp [ht, asBool])
    · trivial
  case alloc t =>
    refine zeroC_sound fun i z hi hz => ?_
    intro H K h
    refine wpH_v ?_
    simp only [Instr.alloc, wpH_bind', wpH_zero hi hz, wpH_newVar, wpH_pure]
    exact h
  case box t x =>
    intro H K h
    refine wpH_v ?_
    simp only [Instr.box, wpH_bind', wpH_newVar, wpH_pure]
    exact h
  case build t ps =>
    have e : (ps.map fun (i, x) => (i, ev x)).toList = ps.toList.map fun p => (p.1, ev p.2) := by simp
    have := buildC_sound (P := P) (t := t) (parts := ps.map fun (i, x) => (i, ev x))
    rw [e] at this
    exact this
  case buildSlice t n ps => rw [map_list]; exact OpC.Sound.sm
  case load t x => exact loadC_sound
  case store t x v => exact storeC_sound
  case nilCheck x =>
    generalize ev x = vx
    cases vx <;> first
      | trivial
      | skip
    rename_i y
    refine ⟨fun Q h => let ⟨a, h⟩ := h; ⟨_, h⟩, fun w v hv => ?_⟩
    cases y with
    | some a => simp at hv; subst hv; rfl
    | none => simp at hv
  case binOp op t x y yt => exact binC_sound
  case unOp op t x => exact unC_sound
  case convert s d x =>
    split
    · rename_i s' k k' n h1 h2 h3
      intro w
      rw [h3]
      refine run_v ?_
      simp [convert, run_und h1, run_und h2, Conv.intToInt]
    · rename_i s h1 h2 h3
      intro w
      rw [h3]
      refine run_v ?_
      simp [convert, run_und h1, run_und h2]
    · exact OpC.Sound.sm
  case makeInterface t x =>
    split
    · trivial
    · rename_i d h1 h2
      intro w
      refine run_v ?_
      simp only [Instr.makeInterface, Sem.run_bind, run_und h2, Result.andThen_ok]
      cases d <;> first | rfl | exact (h1 _ rfl).elim
    · trivial
  case makeFunc fn first captured => intro w; rw [map_list, map_list]; exact run_v rfl
  case makeMap t r =>
    split
    · intro H K h
      refine wpH_v ?_
      simp only [Instr.makeMap, Option.map_none, wpH_bind', wpH_new, wpH_pure]
      exact h
    · split
      · rename_i x k n ky e h1 h2
        intro H K h
        refine wpH_v ?_
        simp only [Instr.makeMap, Option.map_some, h1, wpH_bind', wpH_new, wpH_pure, wpH_und h2, asInt, asIntOf]
        exact h
      · trivial
  case makeSlice t l c => exact OpC.Sound.sm
  case slice t x lo hi mx =>
    split
    · rename_i hu
      split
      · rename_i s hs
        split
        · refine sliceC_sound fun l h m hb => ?_
          intro hc w
          rw [hs]
          refine run_v ?_
          have := hb hc false w
          simp [Instr.sliceAt, Instr.slice, run_und hu, this]
        · trivial
      · trivial
    · rename_i e hu
      split
      · rename_i a len cap i hs hi'
        refine sliceC_sound fun l h m hb => ?_
        intro hc w
        rw [hs]
        refine run_v ?_
        have := hb hc true w
        simp [Instr.sliceAt, Instr.slice, run_und hu, this, run_size hi']
      · trivial
    · exact fun H K h => wpH_v (wpH_mono _ (fun _ _ h => retC_imp h) h)
  case fieldAddr s x f =>
    split
    · rename_i fs hu
      split
      · rename_i fd hf
        split
        · rename_i i hi
          split
          · trivial
          · rename_i hz
            have hz : ¬ i.size = 0 := fun e => by rw [e] at hz; cases hz
            split
            · rename_i a ha
              intro w
              rw [ha]
              refine run_v ?_
              simp [Instr.fieldAt, run_und hu, hf, Instr.sureAddr, fieldPlace, run_size hi, hz]
            · trivial
        · trivial
      · trivial
    · trivial
  case field t x f => exact OpC.Sound.rdV
  case indexAddr t x i =>
    split
    · rename_i e hu
      split
      · rename_i a len cap k n j h1 h2 h3
        refine ⟨fun Q h => let ⟨b, h⟩ := h; ⟨_, h⟩, fun w v hv => ?_⟩
        obtain ⟨hb, hv⟩ := hv
        cases a with
        | none => simp at hv
        | some a =>
          simp only [Option.map_some, Option.some.injEq] at hv
          subst hv
          rw [h1, h2]
          refine run_v ?_
          simp [Instr.indexAt, asIntOf, run_und hu, hb, run_size h3]
      · trivial
    · rename_i len e hu
      split
      · rename_i a k n j h1 h2 h3
        intro hb w
        rw [h1, h2]
        refine run_v ?_
        simp [Instr.indexAt, asIntOf, run_und hu, hb, run_size h3, Instr.sureAddr]
      · trivial
    · trivial
  case index t x i =>
    split
    · rename_i hu
      split
      · rename_i s k n h1 h2
        refine ⟨fun Q h => let ⟨b, h⟩ := h; ⟨_, h⟩, fun w v hv => ?_⟩
        obtain ⟨h0, hv⟩ := hv
        rw [h1, h2]
        refine run_v ?_
        cases hc : s[n.toNat]? with
        | none => simp [hc] at hv
        | some c =>
          simp only [hc, Option.map_some, Option.some.injEq] at hv
          subst hv
          simp [Instr.index, asIntOf, run_und hu, h0, hc]
      · trivial
    · exact OpC.Sound.rdV
  case lookup t x i ok => exact OpC.Sound.rdV
  case mapUpdate t m k x => exact OpC.Sound.smU
  case insert t m k x => exact OpC.Sound.smU
  case mapEntry t m k =>
    split
    · exact fun H K h => wpH_v (wpH_mono _ (fun v H' h => by
        obtain ⟨vs, rfl, hl, h⟩ := h
        have h := asSc_imp (asOne_imp h)
        match vs, hl with
        | [x, y], _ => exact h) h)
    · trivial
  case entryStore t m s x => exact OpC.Sound.smU
  case range t x => exact fun H K h => wpH_v (wpH_mono _ (fun v H' ⟨a, e, h⟩ => by subst e; exact h) h)
  case next it s =>
    split
    · exact fun H K h => wpH_v h
    · exact fun H K h => wpH_v (wpH_mono _ (fun v H' h => by
        rcases h with ⟨rfl, h⟩ | ⟨k, x, rfl, h⟩
        · exact h
        · exact h) h)
  case entry it => exact ⟨fun v K h => asTuple_imp h, fun w v hv => run_v (hv w rfl)⟩
  case extract t i =>
    split
    · rename_i vs ht
      split
      · rename_i v hv
        intro w
        refine run_v ?_
        have : vs[i]? = some v := by simpa using hv
        simp [Instr.extract, ht, this]
      · trivial
    · trivial
  case call c => exact callC_sound hev
  all_goals trivial

end
end Go.Fx

namespace Go.Fx
open Go
set_option linter.unusedVariables false

/-! ## Regions that draw their order: one canonical order serves -/

/-- 'j' must come before 'i'. -/
inductive Anc (ops : Array Oper) : Nat → Nat → Prop
  | edge {i : Nat} {o : Oper} {e : Edge} (h : ops[i]? = some o) (he : e ∈ o.after.toList) (hb : Region.binds .any e = true) : Anc ops e.on i
  | more {i j : Nat} {o : Oper} {e : Edge} (h : ops[i]? = some o) (he : e ∈ o.after.toList) (hb : Region.binds .any e = true) (hj : Anc ops j e.on) : Anc ops j i

def maskOne (acc : List Nat) : List Edge → Nat
  | [] => 0
  | e :: es => bif Region.binds .any e then (2 ^ e.on ||| acc.getD e.on 0) ||| maskOne acc es else maskOne acc es
def masksGo : List Oper → List Nat → List Nat
  | [], acc => acc
  | o :: os, acc => masksGo os (acc ++ [maskOne acc o.after.toList])
def masks (ops : Array Oper) : List Nat := masksGo ops.toList []

theorem maskOne_anc {ops : Array Oper} {acc : List Nat} (hacc : ∀ i j, (acc.getD i 0).testBit j = true → Anc ops j i) {i : Nat} {o : Oper} (ho : ops[i]? = some o) :
    ∀ (es : List Edge), (∀ e ∈ es, e ∈ o.after.toList) → ∀ j, (maskOne acc es).testBit j = true → Anc ops j i
  | [], _, j, h => by simp [maskOne] at h
  | e :: es, hs, j, h => by
    have ih := maskOne_anc hacc ho es (fun x hx => hs x (List.mem_cons_of_mem _ hx)) j
    unfold maskOne at h
    cases hb : Region.binds .any e with
    | false => rw [hb] at h; exact ih h
    | true =>
      rw [hb] at h
      simp only [cond_true, Nat.testBit_or, Bool.or_eq_true] at h
      rcases h with (h | h) | h
      · rw [Nat.testBit_two_pow] at h
        have e1 : e.on = j := of_decide_eq_true h
        subst e1
        exact .edge ho (hs e (by simp)) hb
      · exact .more ho (hs e (by simp)) hb (hacc _ _ h)
      · exact ih h

theorem masksGo_anc {ops : Array Oper} : ∀ (os : List Oper) (acc : List Nat), (∀ k, os[k]? = ops[acc.length + k]?) → (∀ i j, (acc.getD i 0).testBit j = true → Anc ops j i) →
    ∀ i j, ((masksGo os acc).getD i 0).testBit j = true → Anc ops j i
  | [], acc, _, hacc => hacc
  | o :: os, acc, hos, hacc => by
    refine masksGo_anc os _ (fun k => ?_) (fun i j h => ?_)
    · have := hos (k + 1)
      simp only [List.getElem?_cons_succ] at this
      rw [this]
      simp only [List.length_append, List.length_cons, List.length_nil]
      congr 1
      omega
    · by_cases hi : i < acc.length
      · rw [List.getD_eq_getElem?_getD, List.getElem?_append_left hi, ← List.getD_eq_getElem?_getD] at h
        exact hacc i j h
      · by_cases hi2 : i = acc.length
        · subst hi2
          rw [List.getD_eq_getElem?_getD, List.getElem?_append_right (Nat.le_refl _)] at h
          simp only [Nat.sub_self, List.getElem?_cons_zero, Option.getD_some] at h
          have ho : ops[acc.length]? = some o := by have := hos 0; simpa using this.symm
          exact maskOne_anc hacc ho o.after.toList (fun e he => he) j h
        · rw [List.getD_eq_getElem?_getD, List.getElem?_eq_none (by simp; omega)] at h
          simp at h

theorem masks_anc {ops : Array Oper} {i j : Nat} (h : ((masks ops).getD i 0).testBit j = true) : Anc ops j i :=
  masksGo_anc ops.toList [] (fun k => by simp) (fun i j h => by simp at h) i j h

theorem anc_listed {ops : Array Oper} {L : Nat → Prop} (hcl : ∀ i o, ops[i]? = some o → L i → ∀ e ∈ o.after.toList, Region.binds .any e = true → L e.on)
    {i j : Nat} (h : Anc ops j i) : (∀ o, ops[i]? = some o → ∀ e ∈ o.after.toList, Region.binds .any e = true → L e.on) → L j := by
  induction h with
  | edge h he hb => exact fun hr => hr _ h _ he hb
  | more h he hb hj ih => exact fun hr => ih (fun o ho e he' hb' => hcl _ _ ho (hr _ h _ he hb) _ he' hb')

/-- Which operations touch the world, or are the last word on a variable. -/
def isEf (P : Program) (o : Op) : Bool :=
  match o with
  | .assign _ | .alloc _ | .box _ _ | .buildSlice _ _ _ | .insert _ _ _ _ | .store _ _ _ | .mapUpdate _ _ _ _ | .mapEntry _ _ _ | .entryStore _ _ _ _ | .makeMap _ _ | .makeSlice _ _ _
  | .range _ _ | .next _ _ => true
  | .convert _ d _ => match P.underlying d with | some (.int _) => false | _ => true
  | .slice t _ _ _ _ => match P.underlying t with | some (.slice _) | some .string => false | _ => true
  | .call c => match c.callee with | .builtin .len | .builtin .cap | .builtin .min | .builtin .max => false | _ => true
  | _ => false

def noSel (o : Op) : Bool := match o with | .select _ _ => false | _ => true

/-- The order 'ord' may stand for all. -/
def okPairs (P : Program) (ops : Array Oper) (ms : List Nat) : List Nat → Bool
  | [] => true
  | i :: is =>
    (match ops[i]? with
     | none => false
     | some o =>
       noSel o.op && (isEf P o.op || match o.dst with | none => true | some d => !(o.looksAt ops).contains d) &&
       is.all fun j =>
        match ops[j]? with
        | none => false
        | some u =>
          !(ms.getD i 0).testBit j && j != i &&
          (!isEf P o.op || (ms.getD j 0).testBit i) &&
          ((ms.getD j 0).testBit i || o.apart ops u) &&
          (isEf P u.op || match u.dst with | none => true | some d => !(o.looksAt ops).contains d && (isEf P o.op || o.dst != some d))) &&
    okPairs P ops ms is
/-- Each operation stands behind those that it waits for. -/
def okLin (ops : Array Oper) : List Nat → List Nat → Bool
  | _, [] => true
  | prev, i :: is =>
    (match ops[i]? with
     | none => false
     | some o => o.after.toList.all fun e => !Region.binds .any e || prev.contains e.on) && okLin ops (i :: prev) is
def okOrd (P : Program) (ops : Array Oper) (ord : List Nat) : Bool :=
  (List.range ops.size).all (fun i => ord.contains i) && okPairs P ops (masks ops) ord && okLin ops [] ord

section
variable {P : Program} {ops : Array Oper} {Q : Exit → Act → World → Prop}

/-- In state 'a', in this very world, operation 'o' leaves 'v'. -/
def Yields (P : Program) (ops : Array Oper) (o : Oper) (v : Value) (a : Act) (w : World) : Prop :=
  (Region.wanted o (yielded ops a.tmps) = true ∧ (execOp a.eval o).run P w = .ok (.value v) w) ∨ (Region.wanted o (yielded ops a.tmps) = false ∧ v = undef)

def agreeOn (ops : Array Oper) (o : Oper) (a b : Act) : Prop := ∀ t ∈ o.looksAt ops, a.tmps[t]? = b.tmps[t]?

theorem exec_agree {o : Oper} {a b : Act} (hn : noSel o.op = true) (h : agreeOn ops o a b) : execOp a.eval o = execOp b.eval o := by
  refine execOp_congr o (fun cs b e => by rw [e] at hn; cases hn) fun x hx => ?_
  cases x with
  | tmp t =>
    have := h t (List.mem_append_left _ (List.mem_filterMap.2 ⟨.tmp t, by simpa using hx, rfl⟩))
    simp only [Act.eval, Array.getD_eq_getD_getElem?, this]
  | _ => rfl
theorem wanted_agree {o : Oper} {a b : Act} (h : agreeOn ops o a b) : Region.wanted o (yielded ops a.tmps) = Region.wanted o (yielded ops b.tmps) := by
  unfold Region.wanted
  cases hg : o.guard with
  | none => rfl
  | some gw =>
    obtain ⟨g, want⟩ := gw
    have hy : yielded ops a.tmps g = yielded ops b.tmps g := by
      unfold yielded
      cases ht : (ops[g]?).bind (·.dst) with
      | none => rfl
      | some t =>
        have := h t (by simp [Oper.looksAt, hg, ht])
        simp only [Option.bind_some, this]
    simp only [hy]
theorem Yields.agree {o : Oper} {v : Value} {a b : Act} {w : World} (hn : noSel o.op = true) (h : agreeOn ops o a b) (hy : Yields P ops o v a w) : Yields P ops o v b w := by
  unfold Yields at *
  rw [← exec_agree hn h, ← wanted_agree h]
  exact hy

/-- An operation that ends in a value. -/
def effW (P : Program) (o : Oper) (a : Act) (w : World) (N : Value → World → Prop) : Prop :=
  match (execOp a.eval o).run P w with
  | .ok (.value v) w' => N v w'
  | .ok .skip w' => N undef w'
  | .ok (.enter f args) w' => Calls P f args w' fun e w'' => ∃ v, e = .returned v ∧ N v w''
  | _ => False

theorem effW.wp {o : Oper} {a : Act} {w : World} {N : Value → World → Prop} {K : Act → World → Prop} (h : effW P o a w N) (hk : ∀ v w', N v w' → K (a.put o.dst v) w') : o.wp P a w K Q := by
  unfold effW at h
  unfold Oper.wp
  generalize (execOp a.eval o).run P w = r at *
  cases r with
  | ok n w' =>
    cases n <;> simp only [Oper.upon] at h ⊢
    case value v => exact hk _ _ h
    case skip => exact hk _ _ h
    case enter f args => exact h.mono fun e w'' ⟨v, he, hn⟩ => by subst he; exact hk _ _ hn
  | halt h' w' => exact h.elim

theorem effW.agree {o : Oper} {a b : Act} {w : World} {N N' : Value → World → Prop} (hn : noSel o.op = true) (hab : agreeOn ops o a b) (h : effW P o a w N) (hk : ∀ v w', N v w' → N' v w') : effW P o b w N' := by
  unfold effW at *
  rw [exec_agree hn hab] at h
  generalize (execOp b.eval o).run P w = r at *
  cases r with
  | ok n w' =>
    cases n <;> simp only at h ⊢
    case value v => exact hk _ _ h
    case skip => exact hk _ _ h
    case enter f args => exact h.mono fun e w'' ⟨v, he, hn⟩ => ⟨v, he, hk _ _ hn⟩
  | halt h' w' => exact h.elim

def canA (P : Program) (ops : Array Oper) (Q : Exit → Act → World → Prop) (ms : List Nat) : List Nat → List (Nat × (World → Prop)) → Act → World → Prop
  | [], _, a, w => Q .normal a w
  | i :: is, live, a, w => ∃ o, ops[i]? = some o ∧
    if isEf P o.op = true then
      if Region.wanted o (yielded ops a.tmps) = true then
        effW P o a w (fun v w' => (∀ p ∈ live, (ms.getD i 0).testBit p.1 = false → p.2 w') ∧ canA P ops Q ms is live (a.put o.dst v) w')
      else canA P ops Q ms is live (a.put o.dst undef) w
    else ∃ v, ∃ S : World → Prop, S w ∧ (∀ w', S w' → Yields P ops o v a w') ∧ canA P ops Q ms is ((i, S) :: live) (a.put o.dst v) w

/-- Where the canonical run stands, some of its reads are still to be made. -/
structure Inv (P : Program) (ops : Array Oper) (Q : Exit → Act → World → Prop) (ord : List Nat) (listed : Array Bool) (a : Act) (w : World) (done is : List Nat) (live : List (Nat × (World → Prop))) (ac : Act) : Prop where
  ord : ord = done ++ is
  can : canA P ops Q (masks ops) is live ac w
  away : ∀ j ∈ is, listed.getD j true = false
  pend : ∀ j ∈ done, listed.getD j true = false → ∃ o v S, ops[j]? = some o ∧ isEf P o.op = false ∧ (j, S) ∈ live ∧ (S w ∧ ∀ w', S w' → Yields P ops o v ac w') ∧ ac.put o.dst v = ac
  same : ∀ t, (∀ j ∈ done, listed.getD j true = false → ∀ o, ops[j]? = some o → o.dst ≠ some t) → a.tmps[t]? = ac.tmps[t]?
  size : a.tmps.size = ac.tmps.size
  defers : a.defers = ac.defers

theorem okPairs_get {ms : List Nat} : ∀ {ord : List Nat}, okPairs P ops ms ord = true → ∀ {done : List Nat} {i : Nat} {is : List Nat}, ord = done ++ i :: is →
    ∃ o, ops[i]? = some o ∧ noSel o.op = true ∧ (isEf P o.op = true ∨ ∀ d, o.dst = some d → d ∉ o.looksAt ops) ∧
      ∀ j ∈ is, ∃ u, ops[j]? = some u ∧ (ms.getD i 0).testBit j = false ∧ j ≠ i ∧ (isEf P o.op = true → (ms.getD j 0).testBit i = true) ∧
        ((ms.getD j 0).testBit i = true ∨ o.apart ops u = true) ∧
        (isEf P u.op = true ∨ ∀ d, u.dst = some d → d ∉ o.looksAt ops ∧ (isEf P o.op = true ∨ o.dst ≠ some d))
  | [], _, done, i, is, e => by cases done <;> cases e
  | k :: ks, h, done, i, is, e => by
    unfold okPairs at h
    rw [Bool.and_eq_true] at h
    cases done with
    | cons d ds =>
      simp only [List.cons_append, List.cons.injEq] at e
      exact okPairs_get h.2 e.2
    | nil =>
      simp only [List.nil_append, List.cons.injEq] at e
      obtain ⟨rfl, rfl⟩ := e
      have h1 := h.1
      cases ho : ops[k]? with
      | none => simp [ho] at h1
      | some o =>
        simp only [ho, Bool.and_eq_true] at h1
        obtain ⟨⟨h2, h3⟩, h4⟩ := h1
        refine ⟨o, rfl, h2, ?_, fun j hj => ?_⟩
        · rw [Bool.or_eq_true] at h3
          refine h3.imp id fun h5 d hd => ?_
          simpa [hd] using h5
        · have h5 := List.all_eq_true.1 h4 j hj
          cases hu : ops[j]? with
          | none => simp [hu] at h5
          | some u =>
            simp only [hu, Bool.and_eq_true, Bool.or_eq_true, Bool.not_eq_true', bne_iff_ne, ne_eq] at h5
            obtain ⟨⟨⟨⟨h6, h7⟩, h8⟩, h9⟩, h10⟩ := h5
            refine ⟨u, rfl, h6, h7, fun he => h8.resolve_left (by simp [he]), h9, h10.imp id fun h11 d hd => ?_⟩
            simp only [hd, Bool.and_eq_true, Bool.not_eq_true', Bool.or_eq_true, bne_iff_ne, ne_eq] at h11
            exact ⟨by simpa using h11.1, h11.2⟩

/-- Two operations of the canonical order. -/
theorem okPairs_two {ms : List Nat} {ord : List Nat} (h : okPairs P ops ms ord = true) {done is : List Nat} (e : ord = done ++ is) {j i : Nat} (hj : j ∈ done) (hi : i ∈ is) :
    ∃ o u, ops[j]? = some o ∧ ops[i]? = some u ∧ (ms.getD j 0).testBit i = false ∧ i ≠ j ∧ (isEf P o.op = true → (ms.getD i 0).testBit j = true) ∧
        ((ms.getD i 0).testBit j = true ∨ o.apart ops u = true) ∧
        (isEf P u.op = true ∨ ∀ d, u.dst = some d → d ∉ o.looksAt ops ∧ (isEf P o.op = true ∨ o.dst ≠ some d)) := by
  obtain ⟨d1, d2, rfl⟩ := List.append_of_mem hj
  obtain ⟨o, ho, _, _, hall⟩ := okPairs_get h (done := d1) (i := j) (is := d2 ++ is) (by rw [e]; simp)
  obtain ⟨u, hu, h1, h2, h3, h4, h5⟩ := hall i (List.mem_append_right _ hi)
  exact ⟨o, u, ho, hu, h1, h2, h3, h4, h5⟩

theorem okLin_get : ∀ {ord prev : List Nat}, okLin ops prev ord = true → ∀ {p : List Nat} {i : Nat} {s : List Nat}, ord = p ++ i :: s →
    ∀ o, ops[i]? = some o → ∀ e ∈ o.after.toList, Region.binds .any e = true → e.on ∈ prev ∨ e.on ∈ p
  | [], _, _, p, i, s, h => by cases p <;> cases h
  | k :: ks, prev, h, p, i, s, e => by
    unfold okLin at h
    rw [Bool.and_eq_true] at h
    cases p with
    | nil =>
      simp only [List.nil_append, List.cons.injEq] at e
      obtain ⟨rfl, rfl⟩ := e
      intro o ho x hx hb
      have h1 := h.1
      simp only [ho] at h1
      have h2 := List.all_eq_true.1 h1 x hx
      simp only [hb, Bool.not_true, Bool.false_or] at h2
      exact .inl (by simpa using h2)
    | cons d ds =>
      simp only [List.cons_append, List.cons.injEq] at e
      obtain ⟨rfl, e⟩ := e
      intro o ho x hx hb
      rcases okLin_get h.2 e o ho x hx hb with h3 | h3
      · rcases List.mem_cons.1 h3 with h4 | h4
        · exact .inr (by simp [h4])
        · exact .inl h4
      · exact .inr (List.mem_cons_of_mem _ h3)

theorem filter_lt {α : Type} {p q : α → Bool} : ∀ {l : List α} {x : α}, x ∈ l → p x = true → q x = false → (∀ y, q y = true → p y = true) → (l.filter q).length < (l.filter p).length
  | y :: l, x, hx, hp, hq, himp => by
    rcases List.mem_cons.1 hx with rfl | hx
    · simp only [List.filter_cons, hp, hq, if_true, Bool.false_eq_true, if_false, List.length_cons]
      have : (l.filter q).length ≤ (l.filter p).length := by
        clear hx
        induction l with
        | nil => simp
        | cons z l ih =>
          simp only [List.filter_cons]
          cases hqz : q z
          · simp only [Bool.false_eq_true, if_false]; split <;> (try simp only [List.length_cons]) <;> omega
          · simp [himp z hqz]; omega
      omega
    · have ih := filter_lt hx hp hq himp
      simp only [List.filter_cons]
      cases hqy : q y
      · simp only [Bool.false_eq_true, if_false]; split <;> simp <;> omega
      · simp [himp y hqy]; omega

theorem Act.put_put (a : Act) (d : Option Tmp) (v : Value) : (a.put d v).put d v = a.put d v := by
  cases d with
  | none => rfl
  | some d =>
    simp only [Act.put]
    congr 1
    exact Array.ext' (by simp)
theorem Act.put_size (a : Act) (d : Option Tmp) (v : Value) : (a.put d v).tmps.size = a.tmps.size := by
  cases d <;> simp [Act.put]
theorem Act.put_defers' (a : Act) (d : Option Tmp) (v : Value) : (a.put d v).defers = a.defers := by
  cases d <;> rfl
theorem Act.put_ne (a : Act) {d : Option Tmp} (v : Value) {t : Nat} (h : d ≠ some t) : (a.put d v).tmps[t]? = a.tmps[t]? := by
  cases d with
  | none => rfl
  | some d =>
    have : d ≠ t := fun e => h (by rw [e])
    simp [Act.put, Array.getElem?_setIfInBounds_ne this]
theorem Act.put_same {a b : Act} (v : Value) {t : Nat} (h : a.tmps.size = b.tmps.size) : (a.put (some t) v).tmps[t]? = (b.put (some t) v).tmps[t]? := by
  show (a.tmps.setIfInBounds t v)[t]? = (b.tmps.setIfInBounds t v)[t]?
  by_cases ht : t < b.tmps.size
  · rw [Array.getElem?_setIfInBounds_self_of_lt (by omega), Array.getElem?_setIfInBounds_self_of_lt ht]
  · rw [Array.getElem?_eq_none (by simp; omega), Array.getElem?_eq_none (by simp; omega)]
theorem agree_put {o : Oper} (a : Act) {d : Option Tmp} (v : Value) (h : ∀ t, d = some t → t ∉ o.looksAt ops) : agreeOn ops o a (a.put d v) := by
  intro t ht
  exact (Act.put_ne a v (fun e => h t e ht)).symm

theorem Inv.advance {ord : List Nat} (hok : okPairs P ops (masks ops) ord = true) {listed : Array Bool} {a : Act} {w : World} :
    ∀ {is done : List Nat} {live : List (Nat × (World → Prop))} {ac : Act}, Inv P ops Q ord listed a w done is live ac →
    ∃ done' is' live' ac', Inv P ops Q ord listed a w done' is' live' ac' ∧ ∀ i is'', is' = i :: is'' → ∃ o, ops[i]? = some o ∧ isEf P o.op = true
  | [], done, live, ac, h => ⟨done, [], live, ac, h, fun i is'' e => by cases e⟩
  | i :: is, done, live, ac, h => by
    have hcan := h.can
    unfold canA at hcan
    obtain ⟨o, ho, hcan⟩ := hcan
    by_cases hef : isEf P o.op = true
    · exact ⟨done, i :: is, live, ac, h, fun i' is'' e => by cases e; exact ⟨o, ho, hef⟩⟩
    · rw [if_neg hef] at hcan
      obtain ⟨v, S, hS, hy, hcan⟩ := hcan
      obtain ⟨o', ho', hns, hself, hall⟩ := okPairs_get hok h.ord
      rw [ho] at ho'; cases ho'
      have hself := hself.resolve_left hef
      refine Inv.advance hok (is := is) (done := done ++ [i]) (live := (i, S) :: live) (ac := ac.put o.dst v) ?_
      refine ⟨by rw [h.ord]; simp, hcan, fun j hj => h.away j (List.mem_cons_of_mem _ hj), fun j hj hl => ?_, fun t ht => ?_, ?_, ?_⟩
      · rcases List.mem_append.1 hj with hj | hj
        · obtain ⟨u, x, Su, hu, hue, hlive, ⟨hSu, hyu⟩, hfix⟩ := h.pend j hj hl
          obtain ⟨u', o', hu', ho', _, _, _, _, h5⟩ := okPairs_two hok h.ord hj (List.mem_cons_self ..)
          rw [hu] at hu'; cases hu'
          rw [ho] at ho'; cases ho'
          have h6 := h5.resolve_left hef
          refine ⟨u, x, Su, hu, hue, List.mem_cons_of_mem _ hlive, ⟨hSu, fun w' hw' => (hyu w' hw').agree ?_ (agree_put ac v fun t ht => (h6 t ht).1)⟩, ?_⟩
          · obtain ⟨d1, d2, hd⟩ := List.append_of_mem hj
            obtain ⟨u'', hu'', hn, _⟩ := okPairs_get hok (done := d1) (i := j) (is := d2 ++ i :: is) (by rw [h.ord, hd]; simp)
            rw [hu] at hu''; cases hu''
            exact hn
          · have hc := Act.put_comm ac (x := o.dst) (y := u.dst) v x (fun d hd hd' => ((h6 d hd).2.resolve_left (by simp [hue])) hd')
            rw [hc, hfix]
        · rw [List.mem_singleton] at hj
          subst hj
          exact ⟨o, v, S, ho, by simpa using hef, List.mem_cons_self .., ⟨hS, fun w' hw' => (hy w' hw').agree hns (agree_put ac v fun t ht => hself t ht)⟩, Act.put_put _ _ _⟩
      · have hne : o.dst ≠ some t := ht i (by simp) (h.away i (List.mem_cons_self ..)) o ho
        rw [Act.put_ne _ _ hne]
        exact h.same t fun j hj hl => ht j (List.mem_append_left _ hj) hl
      · rw [Act.put_size]; exact h.size
      · rw [Act.put_defers']; exact h.defers

theorem listed_set {listed : Array Bool} {i j : Nat} (h : (listed.setIfInBounds i true).getD j true = false) : listed.getD j true = false ∧ (i < listed.size → j ≠ i) := by
  by_cases e : i = j
  · subst e
    by_cases hi : i < listed.size
    · simp [hi] at h
    · exfalso
      have h1 : listed.size ≤ i := by omega
      have h2 : (listed.setIfInBounds i true)[i]? = none := Array.getElem?_eq_none (by simpa using h1)
      rw [Array.getD_eq_getD_getElem?, h2] at h
      cases h
  · simp only [Array.getD_eq_getD_getElem?, Array.getElem?_setIfInBounds_ne e] at h ⊢
    exact ⟨h, fun _ hh => e hh.symm⟩

theorem first_bad {f : Nat → Bool} : ∀ {l : List Nat} {i : Nat}, i ∈ l → f i = false → ∃ p x s, l = p ++ x :: s ∧ (∀ y ∈ p, f y = true) ∧ f x = false
  | k :: ks, i, hi, hf => by
    by_cases hk : f k = true
    · rcases List.mem_cons.1 hi with rfl | hi
      · rw [hk] at hf; cases hf
      · obtain ⟨p, x, s, h1, h2, h3⟩ := first_bad hi hf
        refine ⟨k :: p, x, s, by rw [h1]; rfl, fun y hy => ?_, h3⟩
        rcases List.mem_cons.1 hy with rfl | hy
        · exact hk
        · exact h2 y hy
    · refine ⟨[], k, ks, rfl, fun y hy => ?_, by simpa using hk⟩
      cases hy

theorem Inv.any {ord : List Nat} (hok : okPairs P ops (masks ops) ord = true) (hlin : okLin ops [] ord = true) (hcov : ∀ i, i < ops.size → i ∈ ord)
    (hQ : ∀ (a b : Act) w, a.tmps = b.tmps → a.defers = b.defers → Q .normal a w → Q .normal b w) :
    ∀ (fuel : Nat) (listed : Array Bool) (a : Act) (w : World) (done is : List Nat) (live : List (Nat × (World → Prop))) (ac : Act), Inv P ops Q ord listed a w done is live ac →
    listed.size = ops.size → (∀ i o, ops[i]? = some o → listed.getD i false = true → ∀ e ∈ o.after.toList, Region.binds .any e = true → listed.getD e.on false = true) →
    (ord.filter fun i => !listed.getD i true).length ≤ fuel → wpAny P .any ops Q fuel listed a w := by
  -- nothing is ready: all is done
  have fin : ∀ (listed : Array Bool) (a : Act) (w : World) (done is : List Nat) (live : List (Nat × (World → Prop))) (ac : Act), Inv P ops Q ord listed a w done is live ac →
      listed.size = ops.size → Region.ready .any ops listed = [] → Q .normal a w := by
    intro listed a w done is live ac hI hsz hr
    have hall : ∀ i ∈ ord, listed.getD i true = true := by
      intro i hi
      by_cases hc : listed.getD i true = true
      · exact hc
      · exfalso
        -- the first one that is not listed may come
        obtain ⟨p, x, s, ho, hp, hx⟩ := first_bad (f := fun y => listed.getD y true) hi (by simpa using hc)
        obtain ⟨o, hxo, _⟩ := okPairs_get hok ho
        have : x ∈ Region.ready .any ops listed := by
          rw [mem_ready]
          refine ⟨hx, o, hxo, fun e he hb => ?_⟩
          have h1 := okLin_get hlin ho o hxo e (by simpa using he) hb
          rcases h1 with h1 | h1
          · cases h1
          · have h2 := hp _ h1
            obtain ⟨q1, q2, hq⟩ := List.append_of_mem h1
            obtain ⟨oe, hoe, _⟩ := okPairs_get hok (done := q1) (i := e.on) (is := q2 ++ x :: s) (by rw [ho, hq]; simp)
            have hlt : e.on < listed.size := by rw [hsz]; exact (Array.getElem?_eq_some_iff.1 hoe).1
            simpa [hlt] using h2
        rw [hr] at this
        cases this
    have his : is = [] := by
      cases is with
      | nil => rfl
      | cons i is =>
        have h1 := hI.away i (List.mem_cons_self ..)
        rw [hall i (by rw [hI.ord]; simp)] at h1
        cases h1
    subst his
    refine hQ ac a w ?_ hI.defers.symm hI.can
    refine Array.ext_getElem? fun t => (hI.same t fun j hj hl => ?_).symm
    rw [hall j (by rw [hI.ord]; exact List.mem_append_left _ hj)] at hl
    cases hl
  intro fuel
  induction fuel with
  | zero =>
    intro listed a w done is live ac hI hsz hcl hle
    have hr : Region.ready .any ops listed = [] := by
      cases hrr : Region.ready .any ops listed with
      | nil => rfl
      | cons i l =>
        have : i ∈ Region.ready .any ops listed := by rw [hrr]; simp
        rw [mem_ready] at this
        obtain ⟨h1, o, ho, _⟩ := this
        have h2 : i ∈ ord.filter fun i => !listed.getD i true := List.mem_filter.2 ⟨hcov i (Array.getElem?_eq_some_iff.1 ho).1, by simpa using h1⟩
        have := List.length_pos_of_mem h2
        omega
    exact ⟨hr, fin listed a w done is live ac hI hsz hr⟩
  | succ fuel ih =>
    intro listed a w done is live ac hI hsz hcl hle
    refine ⟨fun hr => fin listed a w done is live ac hI hsz hr, fun i hi => ?_⟩
    obtain ⟨done, is, live, ac, hI, hhead⟩ := hI.advance hok
    rw [mem_ready] at hi
    obtain ⟨hil, o, ho, hedge⟩ := hi
    have hilt : i < ops.size := (Array.getElem?_eq_some_iff.1 ho).1
    have hedge' : ∀ o', ops[i]? = some o' → ∀ e ∈ o'.after.toList, Region.binds .any e = true → listed.getD e.on false = true := by
      intro o' ho' e he hb
      rw [ho] at ho'; cases ho'
      exact hedge e (by simpa using he) hb
    have hanc : ∀ j, ((masks ops).getD i 0).testBit j = true → listed.getD j true = true := by
      intro j hj
      have h1 := anc_listed (L := fun k => listed.getD k false = true) (fun k u hu hk e he hb => hcl k u hu hk e he hb) (masks_anc hj) hedge'
      have hlt : j < listed.size := by
        rcases Nat.lt_or_ge j listed.size with h | h
        · exact h
        · simp [Array.getElem?_eq_none h] at h1
      simpa [hlt] using h1
    -- what stays true of the listed ones
    have hsz' : (listed.setIfInBounds i true).size = ops.size := by simpa using hsz
    have hcl' : ∀ k u, ops[k]? = some u → (listed.setIfInBounds i true).getD k false = true → ∀ e ∈ u.after.toList, Region.binds .any e = true → (listed.setIfInBounds i true).getD e.on false = true := by
      intro k u hu hk e he hb
      refine getD_set_true ?_
      by_cases hki : i = k
      · subst hki; exact hedge' u hu e he hb
      · rw [getD_set_ne false hki] at hk
        exact hcl k u hu hk e he hb
    have hle' : (ord.filter fun k => !(listed.setIfInBounds i true).getD k true).length ≤ fuel := by
      have := filter_lt (p := fun k => !listed.getD k true) (q := fun k => !(listed.setIfInBounds i true).getD k true) (hcov i hilt) (by simpa using hil) (by simp [hsz, hilt]) (fun y hy => by
        simp only [Bool.not_eq_true'] at hy ⊢
        exact (listed_set hy).1)
      omega
    have hun : ∀ j, (listed.setIfInBounds i true).getD j true = false → listed.getD j true = false ∧ j ≠ i := fun j hj =>
      let ⟨h1, h2⟩ := listed_set hj; ⟨h1, h2 (by rw [hsz]; exact hilt)⟩
    have hset : ∀ j, j ≠ i → listed.getD j true = false → (listed.setIfInBounds i true).getD j true = false := fun j hj h => by
      rw [getD_set_ne true (Ne.symm hj)]; exact h
    have hmem : i ∈ done ∨ i ∈ is := by
      have := hcov i hilt
      rw [hI.ord] at this
      exact List.mem_append.1 this
    -- what stands in the canonical order beside a pending one
    have hns : ∀ j ∈ done, ∀ u, ops[j]? = some u → noSel u.op = true ∧ (isEf P u.op = true ∨ ∀ d, u.dst = some d → d ∉ u.looksAt ops) := by
      intro j hj u hu
      obtain ⟨d1, d2, hd⟩ := List.append_of_mem hj
      obtain ⟨u', hu', h1, h2, _⟩ := okPairs_get hok (done := d1) (i := j) (is := d2 ++ is) (by rw [hI.ord, hd]; simp)
      rw [hu] at hu'; cases hu'
      exact ⟨h1, h2⟩
    rcases hmem with hid | hii
    · -- a read that is still to be made
      obtain ⟨o', v, S, ho', hoe, hlive, ⟨hS, hy⟩, hfix⟩ := hI.pend i hid hil
      rw [ho] at ho'; cases ho'
      obtain ⟨hno, hself⟩ := hns i hid o ho
      have hself := hself.resolve_left (by simp [hoe])
      have hclear : ∀ t ∈ o.looksAt ops, ∀ j ∈ done, listed.getD j true = false → ∀ u, ops[j]? = some u → u.dst ≠ some t := by
        intro t ht j hj hjl u hu hd
        obtain ⟨u', xv, _, hu', hue, _, _, _⟩ := hI.pend j hj hjl
        rw [hu] at hu'; cases hu'
        by_cases hji : j = i
        · subst hji
          rw [ho] at hu; cases hu
          exact hself t hd ht
        · -- which of the two comes first?
          obtain ⟨d1, d2, hd12⟩ := List.append_of_mem hj
          have hi12 : i ∈ d1 ∨ i ∈ d2 := by
            rw [hd12] at hid
            rcases List.mem_append.1 hid with h | h
            · exact .inl h
            · rcases List.mem_cons.1 h with h | h
              · exact (hji h.symm).elim
              · exact .inr h
          rcases hi12 with h | h
          · obtain ⟨oi, oj, hoi, hoj, _, _, _, _, h5⟩ := okPairs_two hok (done := d1) (is := j :: (d2 ++ is)) (by rw [hI.ord, hd12]; simp) h (List.mem_cons_self ..)
            rw [ho] at hoi; cases hoi
            rw [hu] at hoj; cases hoj
            exact ((h5.resolve_left (by simp [hue])) t hd).1 ht
          · obtain ⟨oj, oi, hoj, hoi, _, _, _, h4, _⟩ := okPairs_two hok (done := d1 ++ [j]) (is := d2 ++ is) (by rw [hI.ord, hd12]; simp) (j := j) (i := i) (by simp) (List.mem_append_left _ h)
            rw [ho] at hoi; cases hoi
            rw [hu] at hoj; cases hoj
            rcases h4 with h4 | h4
            · have := hanc j h4
              rw [hjl] at this; cases this
            · exact (Oper.apart_spec h4).1 t hd ht
      have hagree : agreeOn ops o ac a := fun t ht => (hI.same t (hclear t ht)).symm
      have hya := (hy w hS).agree hno hagree
      have hI' : Inv P ops Q ord (listed.setIfInBounds i true) (a.put o.dst v) w done is live ac := by
        refine ⟨hI.ord, hI.can, fun j hj => hset j (fun e => ?_) (hI.away j hj), fun j hj hl => hI.pend j hj (hun j hl).1, fun t ht => ?_, ?_, ?_⟩
        · obtain ⟨_, _, _, _, _, hne, _⟩ := okPairs_two hok hI.ord hid hj
          exact hne e
        · by_cases hd : o.dst = some t
          · rw [← hfix, hd]
            exact Act.put_same v hI.size
          · rw [Act.put_ne _ _ hd]
            refine hI.same t fun j hj hl u hu => ?_
            by_cases hji : j = i
            · subst hji; rw [ho] at hu; cases hu; exact hd
            · exact ht j hj (hset j hji hl) u hu
        · rw [Act.put_size]; exact hI.size
        · rw [Act.put_defers']; exact hI.defers
      have hnext := ih _ _ _ _ _ _ _ hI' hsz' hcl' hle'
      unfold wpOp
      simp only [ho]
      rcases hya with ⟨hw, hr⟩ | ⟨hw, rfl⟩
      · rw [if_pos hw]
        refine .inl ?_
        unfold Oper.wp
        rw [hr]
        exact hnext
      · rw [if_neg (by simp [hw])]
        exact hnext
    · -- the effect at the head
      cases is with
      | nil => cases hii
      | cons e rest =>
        obtain ⟨oe, hoe, hef⟩ := hhead e rest rfl
        have hie : i = e := by
          rcases List.mem_cons.1 hii with h | h
          · exact h
          · exfalso
            obtain ⟨oe', oi, hoe', hoi, _, _, h3, _, _⟩ := okPairs_two hok (done := done ++ [e]) (is := rest) (by rw [hI.ord]; simp) (j := e) (i := i) (by simp) h
            rw [hoe] at hoe'; cases hoe'
            have := hanc e (h3 hef)
            rw [hI.away e (List.mem_cons_self ..)] at this
            cases this
        subst hie
        rw [ho] at hoe; cases hoe
        have hbeside : ∀ j ∈ done, listed.getD j true = false → ∀ u, ops[j]? = some u → ((masks ops).getD i 0).testBit j = false ∧ u.apart ops o = true := by
          intro j hj hjl u hu
          obtain ⟨u', o', hu', ho', _, _, _, h4, _⟩ := okPairs_two hok hI.ord hj (List.mem_cons_self ..)
          rw [hu] at hu'; cases hu'
          rw [ho] at ho'; cases ho'
          have hb : ((masks ops).getD i 0).testBit j = false := by
            cases hb : ((masks ops).getD i 0).testBit j with
            | false => rfl
            | true => have := hanc j hb; rw [hjl] at this; cases this
          exact ⟨hb, h4.resolve_left (by rw [hb]; simp)⟩
        have hagree : agreeOn ops o ac a := fun t ht => (hI.same t fun j hj hjl u hu hd => (Oper.apart_spec (hbeside j hj hjl u hu).2).1 t hd ht).symm
        obtain ⟨o', ho', hno, _⟩ := okPairs_get hok hI.ord
        rw [ho] at ho'; cases ho'
        have hcan := hI.can
        unfold canA at hcan
        obtain ⟨o', ho', hcan⟩ := hcan
        rw [ho] at ho'; cases ho'
        rw [if_pos hef] at hcan
        -- the run goes on
        have hgo : ∀ (v : Value) (w' : World), (∀ (j : Nat) (S : World → Prop), (j, S) ∈ live → ((masks ops).getD i 0).testBit j = false → S w → S w') → canA P ops Q (masks ops) rest live (ac.put o.dst v) w' →
            wpAny P .any ops Q fuel (listed.setIfInBounds i true) (a.put o.dst v) w' := by
          intro v w' hstab hc
          refine ih _ _ _ (done ++ [i]) rest live (ac.put o.dst v) ?_ hsz' hcl' hle'
          refine ⟨by rw [hI.ord]; simp, hc, fun j hj => ?_, fun j hj hl => ?_, fun t ht => ?_, ?_, ?_⟩
          · refine hset j (fun e => ?_) (hI.away j (List.mem_cons_of_mem _ hj))
            obtain ⟨_, _, _, _, _, hne, _⟩ := okPairs_two hok (done := done ++ [i]) (is := rest) (by rw [hI.ord]; simp) (j := i) (i := j) (by simp) hj
            exact hne e
          · obtain ⟨hl, hji⟩ := hun j hl
            rcases List.mem_append.1 hj with hj | hj
            · obtain ⟨u, x, Su, hu, hue, hlive, ⟨hSu, hyu⟩, hfix⟩ := hI.pend j hj hl
              obtain ⟨hb, hap⟩ := hbeside j hj hl u hu
              have hSu' := hstab j Su hlive hb hSu
              obtain ⟨a1, a2, a3⟩ := Oper.apart_spec hap
              refine ⟨u, x, Su, hu, hue, hlive, ⟨hSu', fun w'' hw'' => (hyu w'' hw'').agree (hns j hj u hu).1 (agree_put ac v fun t ht => a3 t ht)⟩, ?_⟩
              rw [Act.put_comm ac (x := o.dst) (y := u.dst) v x (fun d hd hd' => a2 d hd' hd), hfix]
            · rw [List.mem_singleton] at hj
              exact (hji hj).elim
          · by_cases hd : o.dst = some t
            · rw [hd]; exact Act.put_same v hI.size
            · rw [Act.put_ne _ _ hd, Act.put_ne _ _ hd]
              refine hI.same t fun j hj hl u hu => ?_
              refine ht j (List.mem_append_left _ hj) (hset j (fun e => ?_) hl) u hu
              obtain ⟨_, _, _, _, _, hne, _⟩ := okPairs_two hok hI.ord hj (List.mem_cons_self ..)
              exact hne e.symm
          · rw [Act.put_size, Act.put_size]; exact hI.size
          · rw [Act.put_defers', Act.put_defers']; exact hI.defers
        unfold wpOp
        simp only [ho]
        rw [← wanted_agree hagree]
        by_cases hw : Region.wanted o (yielded ops ac.tmps) = true
        · rw [if_pos hw] at hcan ⊢
          exact .inl ((hcan.agree (N' := fun v w' => (∀ p ∈ live, ((masks ops).getD i 0).testBit p.1 = false → p.2 w') ∧ canA P ops Q (masks ops) rest live (ac.put o.dst v) w') hno hagree fun _ _ h => h).wp fun v w' h => hgo v w' (fun j S hl hb _ => h.1 (j, S) hl hb) h.2)
        · rw [if_neg hw] at hcan ⊢
          exact hgo undef w (fun _ _ _ _ h => h) hcan

theorem nodup_len : ∀ (n : Nat) (l : List Nat), l.Nodup → (∀ i ∈ l, i < n) → l.length ≤ n
  | 0, l, _, h => by
    cases l with
    | nil => simp
    | cons x xs => exact absurd (h x (by simp)) (by omega)
  | n + 1, l, hn, h => by
    by_cases hm : n ∈ l
    · have h1 := nodup_len n (l.erase n) (hn.erase n) fun i hi => by
        obtain ⟨h2, h3⟩ := hn.mem_erase_iff.1 hi
        have := h i h3
        omega
      rw [List.length_erase_of_mem hm] at h1
      omega
    · have h1 := nodup_len n l hn fun i hi => by
        have h2 := h i hi
        have h3 : i ≠ n := fun e => hm (e ▸ hi)
        omega
      omega

theorem okPairs_nodup {ms : List Nat} : ∀ {ord : List Nat}, okPairs P ops ms ord = true → ord.Nodup
  | [], _ => List.nodup_nil
  | i :: is, h => by
    obtain ⟨o, _, _, _, hall⟩ := okPairs_get h (done := []) (i := i) (is := is) rfl
    have h' := h
    unfold okPairs at h'
    rw [Bool.and_eq_true] at h'
    refine List.nodup_cons.2 ⟨fun hm => ?_, okPairs_nodup h'.2⟩
    obtain ⟨_, _, _, hne, _⟩ := hall i hm
    exact hne rfl

/-- ONE CANONICAL ORDER SERVES: a region that draws its order. -/
theorem wp_region_canon {id : Nat} {a : Act} {w : World} {ord : List Nat} (hm : P.follows .mixedOrders = true) (hok : okOrd P ops ord = true)
    (hQ : ∀ (a b : Act) w, a.tmps = b.tmps → a.defers = b.defers → Q .normal a w → Q .normal b w)
    (h : canA P ops Q (masks ops) ord [] a { w with drawn := w.drawn + 1 }) : (Code.region id ops true).wp P Q a w := by
  refine wp_region_any hm ?_
  unfold okOrd at hok
  simp only [Bool.and_eq_true] at hok
  obtain ⟨⟨h1, h2⟩, h3⟩ := hok
  refine Inv.any h2 h3 (fun i hi => by simpa using List.all_eq_true.1 h1 i (List.mem_range.2 hi)) hQ _ _ _ _ [] ord [] a ?_ (by simp) (fun i o ho hl => ?_) ?_
  · refine ⟨rfl, h, fun j hj => ?_, fun j hj => (by cases hj), fun t _ => rfl, rfl, rfl⟩
    obtain ⟨p, q, hpq⟩ := List.append_of_mem hj
    obtain ⟨o, ho, _⟩ := okPairs_get h2 hpq
    have := (Array.getElem?_eq_some_iff.1 ho).1
    simp [this]
  · exfalso
    have : i < ops.size := (Array.getElem?_eq_some_iff.1 ho).1
    simp [this] at hl
  · -- no order is longer than the region
    have hn : ord.Nodup := okPairs_nodup h2
    refine Nat.le_trans (List.length_filter_le _ _) ?_
    have hsub : ∀ i ∈ ord, i ∈ List.range ops.size := fun i hi => by
      obtain ⟨p, q, hpq⟩ := List.append_of_mem hi
      obtain ⟨o, ho, _⟩ := okPairs_get h2 hpq
      exact List.mem_range.2 (Array.getElem?_eq_some_iff.1 ho).1
    exact nodup_len _ _ hn fun i hi => List.mem_range.1 (hsub i hi)

end

end Go.Fx

namespace Go.Fx
open Go
set_option linter.unusedVariables false
set_option linter.unusedSimpArgs false

/-! ## Shapes of the variables that a loop or a join carries -/
inductive Sh where
  | int (k : IntKind) | bool | str | ptr | sl | map | any
  deriving DecidableEq

def ShT (s : Sh) (R : Type) : Type :=
  match s with
  | .int _ => Int → R
  | .bool => Bool → R
  | .str => ByteArray → R
  | .ptr => Option Addr → R
  | .sl => Option Addr → Nat → Nat → R
  | .map => Option Nat → R
  | .any => Value → R
def ShsT : List Sh → Type → Type
  | [], R => R
  | s :: ss, R => ShT s (ShsT ss R)

def ap1 {R : Type} (s : Sh) : ShT s R → Value → Option R :=
  match s with
  | .int k => fun f v => match v with | .int k' i => if k = k' then some (f i) else none | _ => none
  | .bool => fun f v => match v with | .bool b => some (f b) | _ => none
  | .str => fun f v => match v with | .string b => some (f b) | _ => none
  | .ptr => fun f v => match v with | .pointer b => some (f b) | _ => none
  | .sl => fun f v => match v with | .slice a l c => some (f a l c) | _ => none
  | .map => fun f v => match v with | .map b => some (f b) | _ => none
  | .any => fun f v => some (f v)
/-- A carried variable: one cell, or a struct of cells. -/
inductive Sl where
  | one (s : Sh)
  | agg (ss : List Sh)
def Sl.list : Sl → List Sh
  | .one s => [s]
  | .agg ss => ss
def apL {R : Type} : (ss : List Sh) → ShsT ss R → List Value → Option R
  | [], f, [] => some f
  | s :: ss, f, v :: vs => match ap1 s f v with | some g => apL ss g vs | none => none
  | _, _, _ => none
def SlsT : List Sl → Type → Type
  | [], R => R
  | .one s :: ss, R => ShT s (SlsT ss R)
  | .agg l :: ss, R => ShsT l (SlsT ss R)
def apS {R : Type} : (ss : List Sl) → SlsT ss R → List Value → Option R
  | [], f, [] => some f
  | .one s :: ss, f, v :: vs => match ap1 s f v with | some g => apS ss g vs | none => none
  | .agg l :: ss, f, v :: vs =>
    match v with
    | .agg cs => match apL l f cs.toList with | some g => apS ss g vs | none => none
    | _ => none
  | _, _, _ => none

def all1 (s : Sh) (K : Value → Prop) : Prop :=
  match s with
  | .int k => ∀ i : Int, K (.int k i)
  | .bool => ∀ b : Bool, K (.bool b)
  | .str => ∀ b : ByteArray, K (.string b)
  | .ptr => ∀ b : Option Addr, K (.pointer b)
  | .sl => ∀ (a : Option Addr) (l c : Nat), K (.slice a l c)
  | .map => ∀ b : Option Nat, K (.map b)
  | .any => ∀ v, K v
def allL : List Sh → (List Value → Prop) → Prop
  | [], K => K []
  | s :: ss, K => all1 s fun v => allL ss fun vs => K (v :: vs)
def allS : List Sl → (List Value → Prop) → Prop
  | [], K => K []
  | .one s :: ss, K => all1 s fun v => allS ss fun vs => K (v :: vs)
  | .agg l :: ss, K => allL l fun cs => allS ss fun vs => K (.agg ⟨cs⟩ :: vs)

theorem ap1_all {R : Type} {s : Sh} {f : ShT s R} {v : Value} {g : R} (h : ap1 s f v = some g) {K : Value → Prop} (hk : all1 s K) : K v := by
  cases s <;> simp only [ap1] at h
  case any => exact hk v
  all_goals (cases v <;> first | (cases h; done) | skip)
  case int.int k k' i =>
    simp only at h
    split at h
    · rename_i e; subst e; exact hk i
    · cases h
  all_goals first | exact hk _ | exact hk _ _ _

theorem apL_all {R : Type} : ∀ {ss : List Sh} {f : ShsT ss R} {vs : List Value} {g : R}, apL ss f vs = some g → ∀ {K : List Value → Prop}, allL ss K → K vs
  | [], f, [], g, h, K, hk => hk
  | [], f, _ :: _, g, h, K, hk => by cases h
  | s :: ss, f, [], g, h, K, hk => by cases h
  | s :: ss, f, v :: vs, g, h, K, hk => by
    unfold apL at h
    split at h
    · rename_i f' hf
      exact apL_all h (K := fun vs => K (v :: vs)) (ap1_all hf (K := fun v => allL ss fun vs => K (v :: vs)) hk)
    · cases h

theorem apS_all {R : Type} : ∀ {ss : List Sl} {f : SlsT ss R} {vs : List Value} {g : R}, apS ss f vs = some g → ∀ {K : List Value → Prop}, allS ss K → K vs
  | [], f, [], g, h, K, hk => hk
  | [], f, _ :: _, g, h, K, hk => by cases h
  | .one s :: ss, f, [], g, h, K, hk => by cases h
  | .one s :: ss, f, v :: vs, g, h, K, hk => by
    unfold apS at h
    split at h
    · rename_i f' hf
      exact apS_all h (K := fun vs => K (v :: vs)) (ap1_all hf (K := fun v => allS ss fun vs => K (v :: vs)) hk)
    · cases h
  | .agg l :: ss, f, [], g, h, K, hk => by cases h
  | .agg l :: ss, f, v :: vs, g, h, K, hk => by
    unfold apS at h
    split at h
    · rename_i cs
      split at h
      · rename_i f' hf
        exact apS_all h (K := fun vs => K (.agg cs :: vs)) (apL_all hf (K := fun cs => allS ss fun vs => K (.agg ⟨cs⟩ :: vs)) hk)
      · cases h
    · cases h

/-- Which variables a loop, or a join, carries: by the number of the first region inside. -/
structure Tab where
  ord : List (Nat × List Nat) := []
  ent : List (Nat × Nat × Nat) := []
  lp : List (Nat × List (Nat × Sl)) := []
  jn : List (Nat × List (Nat × Sl)) := []
def look {α : Type} (d : α) : List (Nat × α) → Nat → α
  | [], _ => d
  | p :: ps, n => bif Nat.beq p.1 n then p.2 else look d ps n

def hd : Code → Nat
  | .region id _ _ => id
  | .seq a b => bif Nat.beq (hd a) 99999 then hd b else hd a
  | .cond _ a b => bif Nat.beq (hd a) 99999 then hd b else hd a
  | .block _ c | .loop c | .scope c => hd c
  | _ => 99999
def writes : Code → List Nat
  | .region _ ops _ => ops.toList.filterMap (·.dst)
  | .seq a b | .cond _ a b => writes a ++ writes b
  | .block _ c | .loop c | .scope c => writes c
  | _ => []
def exitsTo (id : Nat) : Code → Nat
  | .exit id' => bif Nat.beq id id' then 1 else 0
  | .seq a b | .cond _ a b => Nat.add (exitsTo id a) (exitsTo id b)
  | .block _ c | .loop c | .scope c => exitsTo id c
  | _ => 0
/-- How many ways there are through a piece to what stands behind it. -/
def ways : Code → Nat
  | .skip | .region _ _ _ | .label _ => 1
  | .seq a b => bif Nat.beq (ways a) 0 then 0 else ways b
  | .cond _ a b => Nat.add (ways a) (ways b)
  | .block id c => Nat.add (ways c) (exitsTo id c)
  | .scope c => ways c
  | _ => 0
def dstOk (n : Nat) : Code → Bool
  | .region _ ops _ => ops.toList.all fun o => match o.dst with | none => true | some d => Nat.blt d n
  | .seq a b | .cond _ a b => dstOk n a && dstOk n b
  | .block _ c | .loop c | .scope c => dstOk n c
  | _ => true

inductive Ex where
  | norm
  | ex (id : Nat)
  | ret
abbrev QT := Ex → Fr → Heap → Prop
def Ex.to : Ex → Exit
  | .norm => .normal
  | .ex id => .exit id
  | .ret => .ret

/-- A mark that keeps 'simp' from looking at what is not yet its turn. -/
@[reducible] def TokT {α : Sort _} (_ : α) : Type := Unit

def BrB (b : Bool) (A B : Prop) (_t : TokT A := ()) (_u : TokT B := ()) : Prop := match b with | true => A | false => B

/-- One operation. -/
def opE (P : Program) (tb : Tab) (fr : Fr) (o : Oper) : OpC :=
  match o.op with
  | .entry it =>
    match o.dst with
    | some d => match look (0, 0) tb.ent d with
      | (kt, vt) => .rd (Rd P (Instr.entry (evF fr it))) (asTuple P [kt, vt])
    | none => .bad
  | _ => opC P (evF fr) o

def opG (P : Program) (tb : Tab) (ops : Array Oper) (o : Oper) (exec : Fr → Prop) (skip : Fr → Prop) (fr : Fr) : Prop :=
  match o.guard with
  | none => exec fr
  | some (j, want) =>
    match (ops[j]?).bind (·.dst) with
    | none => skip fr
    | some d =>
      match fr d with
      | .bool b => BrB b (match want with | true => exec (putF fr (some d) (.bool true)) | false => skip (putF fr (some d) (.bool true)))
          (match want with | true => skip (putF fr (some d) (.bool false)) | false => exec (putF fr (some d) (.bool false)))
      | _ => skip fr

def regW (P : Program) (tb : Tab) (ops : Array Oper) (K : Fr → Heap → Prop) : List Oper → Fr → Heap → Prop
  | [], fr, H => K fr H
  | o :: os, fr, H => opG P tb ops o (fun fr => (opE P tb fr o).go H fun v H => regW P tb ops K os (putF fr o.dst v) H) (fun fr => regW P tb ops K os (putF fr o.dst undef) H) fr

/-- What has been read stays as it was read. -/
def stabW (m : Nat) : List (Nat × (Heap → Prop)) → Heap → Prop → Prop
  | [], _, G => G
  | p :: ps, H, G => bif m.testBit p.1 then stabW m ps H G else p.2 H ∧ stabW m ps H G

/-- A region that draws its order, in the canonical one. -/
def canW (P : Program) (tb : Tab) (ops : Array Oper) (ms : List Nat) (K : Fr → Heap → Prop) : List Nat → List (Nat × (Heap → Prop)) → Fr → Heap → Prop
  | [], _, fr, H => K fr H
  | i :: is, live, fr, H =>
    match ops[i]? with
    | none => False
    | some o =>
      opG P tb ops o
        (fun fr =>
          match isEf P o.op with
          | true => (opE P tb fr o).go H fun v H' => stabW (ms.getD i 0) live H' (canW P tb ops ms K is live (putF fr o.dst v) H')
          | false =>
            match opE P tb fr o with
            | .pv v => canW P tb ops ms K is live (putF fr o.dst v) H
            | .chk c v => c ∧ canW P tb ops ms K is live (putF fr o.dst v) H
            | .rd R as => ∃ v, R H v ∧ as v fun u => canW P tb ops ms K is ((i, fun H' => R H' v) :: live) (putF fr o.dst u) H
            | .rx ex c => ex fun v => c v ∧ canW P tb ops ms K is live (putF fr o.dst v) H
            | _ => False)
        (fun fr => canW P tb ops ms K is live (putF fr o.dst undef) H) fr

def holdsAt (ss : List Sl) (I : SlsT ss (Heap → Prop)) (vs : List Value) (H : Heap) : Prop := match apS ss I vs with | some p => p H | none => False
def muAt (ss : List Sl) (μ : SlsT ss (Heap → Nat)) (vs : List Value) (H : Heap) : Nat := match apS ss μ vs with | some m => m H | none => 0
def setAll : List Nat → List Value → Fr → Fr
  | t :: ts, v :: vs, fr => setAll ts vs (putF fr (some t) v)
  | _, _, fr => fr
def mixF (ws : List Nat) (j fr : Fr) : Fr := fun t => bif ws.contains t then j t else fr t

def loopQ (Q : QT) (ss : List Sl) (ts : List Nat) (I : SlsT ss (Heap → Prop)) (μ : SlsT ss (Heap → Nat)) (m : Nat) : QT
  | .norm, fr, H => holdsAt ss I (ts.map fr) H ∧ muAt ss μ (ts.map fr) H < m
  | e, fr, H => Q e fr H
def joinQ (Q : QT) (ss : List Sl) (ts : List Nat) (J : SlsT ss (Heap → Prop)) : QT
  | .norm, fr, H => holdsAt ss J (ts.map fr) H
  | e, fr, H => Q e fr H
def seqQ (K : Fr → Heap → Prop) (Q : QT) : QT
  | .norm, fr, H => K fr H
  | e, fr, H => Q e fr H
def blkQ (id : Nat) (Q : QT) : QT
  | .ex id', fr, H => match Nat.beq id' id with | true => Q .norm fr H | false => Q (.ex id') fr H
  | e, fr, H => Q e fr H

def W (P : Program) (tb : Tab) : Code → QT → Fr → Heap → Prop
  | .skip, Q, fr, H => Q .norm fr H
  | .region id ops draw, Q, fr, H =>
    match draw with
    | false => regW P tb ops (Q .norm) ops.toList fr H
    | true =>
      match okOrd P ops (look [] tb.ord id) with
      | true => canW P tb ops (masks ops) (Q .norm) (look [] tb.ord id) [] fr H
      | false => False
  | .seq a b, Q, fr, H =>
    match Nat.ble (ways a) 1 with
    | true => W P tb a (seqQ (W P tb b Q) Q) fr H
    | false =>
      ∃ J : SlsT ((look [] tb.jn (hd a)).map (·.2)) (Heap → Prop),
        (∀ j : Fr, allS ((look [] tb.jn (hd a)).map (·.2)) fun vs => ∀ H, holdsAt ((look [] tb.jn (hd a)).map (·.2)) J vs H →
          W P tb b Q (setAll ((look [] tb.jn (hd a)).map (·.1)) vs (mixF (writes a) j fr)) H) ∧
        W P tb a (joinQ Q ((look [] tb.jn (hd a)).map (·.2)) ((look [] tb.jn (hd a)).map (·.1)) J) fr H
  | .cond c a b, Q, fr, H =>
    match evF fr c with
    | .bool t => BrB t (W P tb a Q fr H) (W P tb b Q fr H)
    | _ => False
  | .block id c, Q, fr, H => W P tb c (blkQ id Q) fr H
  | .loop c, Q, fr, H =>
    ∃ (I : SlsT ((look [] tb.lp (hd c)).map (·.2)) (Heap → Prop)) (μ : SlsT ((look [] tb.lp (hd c)).map (·.2)) (Heap → Nat)),
      holdsAt ((look [] tb.lp (hd c)).map (·.2)) I (((look [] tb.lp (hd c)).map (·.1)).map fr) H ∧
      ∀ j : Fr, allS ((look [] tb.lp (hd c)).map (·.2)) fun vs => ∀ H, holdsAt ((look [] tb.lp (hd c)).map (·.2)) I vs H →
        W P tb c (loopQ Q ((look [] tb.lp (hd c)).map (·.2)) ((look [] tb.lp (hd c)).map (·.1)) I μ (muAt ((look [] tb.lp (hd c)).map (·.2)) μ vs H))
          (setAll ((look [] tb.lp (hd c)).map (·.1)) vs (mixF (writes c) j fr)) H
  | .exit id, Q, fr, H => Q (.ex id) fr H
  | .ret, Q, fr, H => Q .ret fr H
  | _, _, _, _ => False

/-! ## Soundness -/
structure Sim (n : Nat) (a : Act) (fr : Fr) : Prop where
  size : a.tmps.size = n
  get : ∀ t, a.tmps.getD t undef = fr t
  defers : a.defers = []

theorem Sim.put {n : Nat} {a : Act} {fr : Fr} (h : Sim n a fr) {d : Option Tmp} (hd : ∀ t, d = some t → t < n) (v : Value) : Sim n (a.put d v) (putF fr d v) := by
  cases d with
  | none => exact h
  | some d =>
    have hlt := hd d rfl
    refine ⟨by simp [Act.put, h.size], fun t => ?_, h.defers⟩
    show (a.tmps.setIfInBounds d v).getD t undef = _
    simp only [putF]
    by_cases e : t = d
    · subst e
      simp [h.size, hlt]
    · have : Nat.beq t d = false := by
        cases hb : Nat.beq t d with
        | false => rfl
        | true => exact (e (Nat.eq_of_beq_eq_true hb)).elim
      rw [this, cond_false, ← h.get t]
      simp [Array.getElem?_setIfInBounds_ne (Ne.symm e)]

theorem Sim.eval {n : Nat} {a : Act} {fr : Fr} (h : Sim n a fr) : a.eval = evF fr := by
  funext x
  cases x with
  | tmp t => exact h.get t
  | _ => rfl

theorem putF_self {fr : Fr} {d : Nat} {v : Value} (h : fr d = v) : putF fr (some d) v = fr := by
  funext t
  simp only [putF]
  cases hb : Nat.beq t d with
  | false => rfl
  | true => rw [cond_true, Nat.eq_of_beq_eq_true hb, h]

theorem opG_sound {P : Program} {tb : Tab} {ops : Array Oper} {o : Oper} {exec skip : Fr → Prop} {n : Nat} {a : Act} {fr : Fr} (hs : Sim n a fr) (h : opG P tb ops o exec skip fr) :
    (Region.wanted o (yielded ops a.tmps) = true ∧ exec fr) ∨ (Region.wanted o (yielded ops a.tmps) = false ∧ skip fr) := by
  unfold opG at h
  unfold Region.wanted
  cases hg : o.guard with
  | none => rw [hg] at h; exact .inl ⟨rfl, h⟩
  | some jw =>
    obtain ⟨j, want⟩ := jw
    simp only [hg] at h
    simp only [yielded]
    cases hd : (ops[j]?).bind (·.dst) with
    | none =>
      simp only [hd] at h
      exact .inr ⟨by simp [hd], h⟩
    | some d =>
      simp only [hd] at h
      simp only [hd, Option.bind_some]
      have hget := hs.get d
      cases hb : fr d with
      | bool b =>
        rw [hb] at hget
        simp only [hb] at h
        have he : a.tmps[d]? = some (.bool b) := by
          rw [Array.getD_eq_getD_getElem?] at hget
          cases hx : a.tmps[d]? with
          | none => rw [hx] at hget; cases hget
          | some y => rw [hx] at hget; simpa using hget
        simp only [he]
        cases b with
        | true =>
          simp only [BrB] at h
          cases want with
          | true => exact .inl ⟨rfl, by rw [putF_self hb] at h; exact h⟩
          | false => exact .inr ⟨rfl, by rw [putF_self hb] at h; exact h⟩
        | false =>
          simp only [BrB] at h
          cases want with
          | true => exact .inr ⟨rfl, by rw [putF_self hb] at h; exact h⟩
          | false => exact .inl ⟨rfl, by rw [putF_self hb] at h; exact h⟩
      | _ =>
        simp only [hb] at h
        rw [hb] at hget
        refine .inr ⟨?_, h⟩
        rw [Array.getD_eq_getD_getElem?] at hget
        cases hx : a.tmps[d]? with
        | none => rfl
        | some y =>
          rw [hx] at hget
          simp only [Option.getD_some] at hget
          subst hget
          rfl

theorem opE_sound {P : Program} {tb : Tab} {fr : Fr} (o : Oper) : (opE P tb fr o).Sound P (execOp (evF fr) o) := by
  unfold opE
  split
  · rename_i it ho
    split
    · rename_i d hd
      dsimp only
      have e : execOp (evF fr) o = (do pure (Next.value (← Instr.entry (evF fr it))) : Sem Next) := by
        unfold execOp
        rw [ho]
      rw [e]
      exact ⟨fun v K h => asTuple_imp h, fun w v hv => run_v (hv w rfl)⟩
    · trivial
  · exact opC_sound (fun _ => rfl) o

theorem go_eff {P : Program} {c : OpC} {o : Oper} {a : Act} {w : World} {K : Value → Heap → Prop} (hs : c.Sound P (execOp a.eval o)) (h : c.go w.heap K) :
    effW P o a w fun v w' => SameOut w w' ∧ K v w'.heap := by
  unfold effW
  cases c with
  | pv v => rw [hs w]; exact ⟨.refl _, h⟩
  | chk p v => rw [hs h.1 w]; exact ⟨.refl _, h.2⟩
  | rd R as =>
    obtain ⟨v, hr, hk⟩ := h
    rw [hs.2 w v hr]
    exact ⟨.refl _, hs.1 v (fun u => K u w.heap) hk⟩
  | rx ex c =>
    obtain ⟨v, hr, hk⟩ := hs.1 _ h
    rw [hs.2 w v hr]
    exact ⟨.refl _, hk⟩
  | ef f =>
    obtain ⟨x, w', hr, hso, hk⟩ := wpH_run _ (hs _ _ h) rfl
    rw [hr]
    cases x <;> simp only [nextH] at hk <;> first
      | exact ⟨hso, hk⟩
      | exact hk.elim
      | exact (hk.2 w' rfl).mono fun e w'' ⟨v, he, hs', hk'⟩ => ⟨v, he, hso.trans hs', hk'⟩
  | bad => exact h.elim

section
variable {P : Program} {tb : Tab} {n : Nat}

theorem regW_sound {ops : Array Oper} {K : Fr → Heap → Prop} {QX : Exit → Act → World → Prop} : ∀ (l : List Oper) {fr : Fr} {a : Act} {w : World},
    (∀ o ∈ l, ∀ d, o.dst = some d → d < n) → Sim n a fr → regW P tb ops K l fr w.heap →
    (∀ fr' a' w', Sim n a' fr' → SameOut w w' → (∀ t, (∀ o ∈ l, o.dst ≠ some t) → fr' t = fr t) → K fr' w'.heap → QX .normal a' w') → wpList P ops QX l a w
  | [], fr, a, w, hd, hs, h, hk => hk fr a w hs (.refl _) (fun _ _ => rfl) h
  | o :: os, fr, a, w, hd, hs, h, hk => by
    unfold regW at h
    have key : ∀ v (w' : World), SameOut w w' → regW P tb ops K os (putF fr o.dst v) w'.heap → wpList P ops QX os (a.put o.dst v) w' := fun v w' hso h' =>
      regW_sound os (fun o' ho' => hd o' (List.mem_cons_of_mem _ ho')) (hs.put (hd o (List.mem_cons_self ..)) v) h' fun fr' a' w'' hs' hso' hfr hkk =>
        hk fr' a' w'' hs' (hso.trans hso') (fun t ht => by
          rw [hfr t fun o' ho' => ht o' (List.mem_cons_of_mem _ ho')]
          have := ht o (List.mem_cons_self ..)
          cases hod : o.dst with
          | none => rfl
          | some d =>
            rw [hod] at this
            simp only [putF]
            cases hb : Nat.beq t d with
            | false => rfl
            | true => exact (this (by rw [Nat.eq_of_beq_eq_true hb])).elim) hkk
    unfold wpList
    rcases opG_sound hs h with ⟨hw, h⟩ | ⟨hw, h⟩
    · rw [if_pos hw]
      refine .inl ?_
      have := go_eff (a := a) (w := w) (by rw [hs.eval]; exact opE_sound o) h
      exact this.wp fun v w' ⟨hso, hr⟩ => key v w' hso hr
    · rw [if_neg (by simp [hw])]
      exact key undef w (.refl _) h

theorem canW_sound {ops : Array Oper} {K : Fr → Heap → Prop} {QX : Exit → Act → World → Prop} {ms : List Nat} : ∀ (is : List Nat) {live : List (Nat × (Heap → Prop))} {fr : Fr} {a : Act} {w : World},
    (∀ (i : Nat) (o : Oper), ops[i]? = some o → ∀ d, o.dst = some d → d < n) → Sim n a fr → canW P tb ops ms K is live fr w.heap →
    (∀ fr' a' w', Sim n a' fr' → SameOut w w' → (∀ t, (∀ (i : Nat) (o : Oper), ops[i]? = some o → o.dst ≠ some t) → fr' t = fr t) → K fr' w'.heap → QX .normal a' w') →
    ∀ (lv : List (Nat × (World → Prop))), (∀ p ∈ lv, (∀ w', p.2 w') ∨ ∃ R, (p.1, R) ∈ live ∧ p.2 = fun w' => R w'.heap) → canA P ops QX ms is lv a w
  | [], live, fr, a, w, hd, hs, h, hk, lv, hlv => hk fr a w hs (.refl _) (fun _ _ => rfl) h
  | i :: is, live, fr, a, w, hd, hs, h, hk, lv, hlv => by
    unfold canW at h
    cases ho : ops[i]? with
    | none => simp [ho] at h
    | some o =>
      simp only [ho] at h
      unfold canA
      refine ⟨o, ho, ?_⟩
      have key : ∀ v (w' : World) (live' : List (Nat × (Heap → Prop))) (lv' : List (Nat × (World → Prop))), SameOut w w' →
          (∀ p ∈ lv', (∀ w', p.2 w') ∨ ∃ R, (p.1, R) ∈ live' ∧ p.2 = fun w' => R w'.heap) →
          canW P tb ops ms K is live' (putF fr o.dst v) w'.heap → canA P ops QX ms is lv' (a.put o.dst v) w' := fun v w' live' lv' hso hlv' h' =>
        canW_sound is hd (hs.put (hd i o ho) v) h' (fun fr' a' w'' hs' hso' hfr hkk =>
          hk fr' a' w'' hs' (hso.trans hso') (fun t ht => by
            rw [hfr t ht]
            have := ht i o ho
            cases hod : o.dst with
            | none => rfl
            | some d =>
              rw [hod] at this
              simp only [putF]
              cases hb : Nat.beq t d with
              | false => rfl
              | true => exact (this (by rw [Nat.eq_of_beq_eq_true hb])).elim) hkk) lv' hlv'
      have hstab : ∀ (l : List (Nat × (Heap → Prop))) (m : Nat) (H : Heap) (G : Prop), stabW m l H G → G ∧ ∀ p ∈ l, m.testBit p.1 = false → p.2 H := by
        intro l
        induction l with
        | nil => exact fun m H G h => ⟨h, fun p hp => by cases hp⟩
        | cons p ps ih =>
          intro m H G h
          unfold stabW at h
          cases hb : m.testBit p.1 with
          | true =>
            rw [hb] at h
            obtain ⟨h1, h2⟩ := ih m H G h
            refine ⟨h1, fun q hq hqb => ?_⟩
            rcases List.mem_cons.1 hq with rfl | hq
            · rw [hb] at hqb; cases hqb
            · exact h2 q hq hqb
          | false =>
            rw [hb] at h
            obtain ⟨h0, h⟩ := h
            obtain ⟨h1, h2⟩ := ih m H G h
            refine ⟨h1, fun q hq hqb => ?_⟩
            rcases List.mem_cons.1 hq with rfl | hq
            · exact h0
            · exact h2 q hq hqb
      have hE := opE_sound (P := P) (tb := tb) (fr := fr) o
      rcases opG_sound hs h with ⟨hw, h⟩ | ⟨hw, h⟩
      · cases hef : isEf P o.op with
        | true =>
          simp only [hef] at h
          rw [if_pos rfl, if_pos hw]
          have := go_eff (a := a) (w := w) (by rw [hs.eval]; exact hE) h
          refine effW.agree (ops := ops) (a := a) (b := a) ?_ (fun _ _ => rfl) this fun v w' ⟨hso, hr⟩ => ?_
          · cases hop : o.op <;> first | rfl | (rw [hop] at hef; cases hef)
          · obtain ⟨h1, h2⟩ := hstab _ _ _ _ hr
            refine ⟨fun p hp hb => ?_, key v w' live lv hso hlv h1⟩
            rcases hlv p hp with hc | ⟨R, hR, he⟩
            · exact hc w'
            · rw [he]; exact h2 _ hR hb
        | false =>
          simp only [hef] at h
          rw [if_neg (by simp)]
          have hrun : ∀ (w' : World) v, (execOp (evF fr) o).run P w' = .ok (.value v) w' → Yields P ops o v a w' := fun w' v hr => .inl ⟨hw, by rw [hs.eval]; exact hr⟩
          split at h
          · rename_i v hv
            rw [hv] at hE
            exact ⟨v, fun _ => True, trivial, fun w' _ => hrun w' v (hE w'), key v w live _ (.refl _) (fun p hp => by
              rcases List.mem_cons.1 hp with rfl | hp
              · exact .inl fun _ => trivial
              · exact hlv p hp) h⟩
          · rename_i c v hv
            rw [hv] at hE
            exact ⟨v, fun _ => True, trivial, fun w' _ => hrun w' v (hE h.1 w'), key v w live _ (.refl _) (fun p hp => by
              rcases List.mem_cons.1 hp with rfl | hp
              · exact .inl fun _ => trivial
              · exact hlv p hp) h.2⟩
          · rename_i R as hv
            rw [hv] at hE
            obtain ⟨v, hR, h⟩ := h
            have h := hE.1 v _ h
            refine ⟨v, fun w' => R w'.heap v, hR, fun w' hw' => hrun w' v (hE.2 w' v hw'), key v w _ _ (.refl _) (fun p hp => ?_) h⟩
            rcases List.mem_cons.1 hp with rfl | hp
            · exact .inr ⟨_, List.mem_cons_self .., rfl⟩
            · rcases hlv p hp with hc | ⟨R', hR', he⟩
              · exact .inl hc
              · exact .inr ⟨R', List.mem_cons_of_mem _ hR', he⟩
          · rename_i ex c hv
            rw [hv] at hE
            obtain ⟨v, hR, h⟩ := hE.1 _ h
            exact ⟨v, fun _ => True, trivial, fun w' _ => hrun w' v (hE.2 w' v hR), key v w live _ (.refl _) (fun p hp => by
              rcases List.mem_cons.1 hp with rfl | hp
              · exact .inl fun _ => trivial
              · exact hlv p hp) h⟩
          · exact h.elim
      · cases hef : isEf P o.op with
        | true =>
          rw [if_pos rfl, if_neg (by simp [hw])]
          exact key undef w live lv (.refl _) hlv h
        | false =>
          rw [if_neg (by simp)]
          exact ⟨undef, fun _ => True, trivial, fun w' _ => .inr ⟨hw, rfl⟩, key undef w live _ (.refl _) (fun p hp => by
            rcases List.mem_cons.1 hp with rfl | hp
            · exact .inl fun _ => trivial
            · exact hlv p hp) h⟩

theorem map_setAll {g : Fr} : ∀ (ts : List Nat) (f : Fr), setAll ts (ts.map g) f = fun t => bif ts.contains t then g t else f t
  | [], f => by funext t; simp [setAll]
  | t :: ts, f => by
    rw [List.map_cons, setAll, map_setAll ts]
    funext s
    simp only [List.contains_cons, putF]
    by_cases h1 : ts.contains s = true
    · rw [h1, Bool.or_true]; rfl
    · have h1 : ts.contains s = false := by simpa using h1
      rw [h1, Bool.or_false]
      by_cases h2 : s = t
      · subst h2
        have : Nat.beq s s = true := Nat.beq_refl s
        rw [this]
        simp
      · have : Nat.beq s t = false := by
          cases hb : Nat.beq s t with
          | false => rfl
          | true => exact (h2 (Nat.eq_of_beq_eq_true hb)).elim
        rw [this]
        have h3 : (s == t) = false := by simpa using h2
        simp [h3]

theorem setAll_mix {ts ws : List Nat} {fr fr' : Fr} (h : ∀ t, t ∉ ws → fr' t = fr t) : setAll ts (ts.map fr') (mixF ws fr' fr) = fr' := by
  rw [map_setAll]
  funext t
  cases hc : ts.contains t with
  | true => rfl
  | false =>
    show mixF ws fr' fr t = fr' t
    unfold mixF
    cases hw : ws.contains t with
    | true => rfl
    | false => exact (h t (by simpa using hw)).symm

theorem holdsAt_all {ss : List Sl} {I : SlsT ss (Heap → Prop)} {vs : List Value} {H : Heap} (h : holdsAt ss I vs H) {K : List Value → Prop} (hk : allS ss K) : K vs := by
  unfold holdsAt at h
  split at h
  · rename_i p hp
    exact apS_all hp hk
  · exact h.elim

theorem W_sound (hm : P.follows .mixedOrders = true) : ∀ (c : Code) {QX : Exit → Act → World → Prop} {Q : QT} {fr : Fr} {a : Act} {w : World}, dstOk n c = true → Sim n a fr → W P tb c Q fr w.heap →
    (∀ e fr' a' w', Sim n a' fr' → SameOut w w' → (∀ t, t ∉ writes c → fr' t = fr t) → Q e fr' w'.heap → QX e.to a' w') → c.wp P QX a w := by
  intro c
  induction c with
  | skip => exact fun hd hs h hk => wp_skip (hk .norm _ _ _ hs (.refl _) (fun _ _ => rfl) h)
  | region id ops draw =>
    intro QX Q fr a w hd hs h hk
    have hd' : ∀ o ∈ ops.toList, ∀ d, o.dst = some d → d < n := fun o ho d hod => by
      unfold dstOk at hd
      have := List.all_eq_true.1 hd o ho
      simp only [hod] at this
      exact Nat.lt_of_lt_of_eq (Nat.le_of_ble_eq_true this) rfl
    have hw : ∀ t, t ∉ writes (.region id ops draw) → ∀ o ∈ ops.toList, o.dst ≠ some t := fun t ht o ho e => ht (List.mem_filterMap.2 ⟨o, ho, e⟩)
    unfold W at h
    cases draw with
    | false => exact wp_region_list (regW_sound _ hd' hs h fun fr' a' w' hs' hso hfr hq => hk .norm fr' a' w' hs' hso (fun t ht => hfr t (hw t ht)) hq)
    | true =>
      dsimp only at h
      split at h
      · rename_i hok
        have hmem : ∀ (i : Nat) (o : Oper), ops[i]? = some o → o ∈ ops.toList := fun i o ho => Array.mem_toList_iff.2 (Array.mem_of_getElem? ho)
        let Q1 : Exit → Act → World → Prop := fun e a' w' => e = .normal ∧ ∃ fr', Sim n a' fr' ∧ SameOut w w' ∧ (∀ t, t ∉ writes (.region id ops true) → fr' t = fr t) ∧ Q .norm fr' w'.heap
        have hcan : canA P ops Q1 (masks ops) (look [] tb.ord id) [] a { w with drawn := w.drawn + 1 } :=
          canW_sound (w := { w with drawn := w.drawn + 1 }) (QX := Q1) _ (fun i o ho => hd' o (hmem i o ho)) hs h
            (fun fr' a' w' hs' hso hfr hq => ⟨rfl, fr', hs', ⟨hso.os, hso.output⟩, fun t ht => hfr t fun i o ho => hw t ht o (hmem i o ho), hq⟩) [] (fun p hp => by cases hp)
        have hh : (Code.region id ops true).wp P Q1 a w := by
          refine wp_region_canon hm hok ?_ hcan
          rintro x y w' h1 h2 ⟨_, fr', hs', hrest⟩
          exact ⟨rfl, fr', ⟨by rw [← h1]; exact hs'.size, fun t => by rw [← h1]; exact hs'.get t, by rw [← h2]; exact hs'.defers⟩, hrest⟩
        refine wp_mono hh ?_
        rintro e a' w' ⟨rfl, fr', hs', hso, hfr, hq⟩
        exact hk .norm fr' a' w' hs' hso hfr hq
      · exact h.elim
  | seq x y ihx ihy =>
    intro QX Q fr a w hd hs h hk
    unfold dstOk at hd
    rw [Bool.and_eq_true] at hd
    have hy : ∀ fr' a' w', Sim n a' fr' → SameOut w w' → (∀ t, t ∉ writes x → fr' t = fr t) → W P tb y Q fr' w'.heap → y.wp P QX a' w' := fun fr' a' w' hs' hso hfr h' =>
      ihy hd.2 hs' h' fun e fr'' a'' w'' hs'' hso' hfr' hq => hk e fr'' a'' w'' hs'' (hso.trans hso') (fun t ht => by
        simp only [writes, List.mem_append, not_or] at ht
        rw [hfr' t ht.2, hfr t ht.1]) hq
    have hx : ∀ e fr' a' w', Sim n a' fr' → SameOut w w' → (∀ t, t ∉ writes x → fr' t = fr t) → e ≠ Ex.norm → Q e fr' w'.heap → QX e.to a' w' := fun e fr' a' w' hs' hso hfr hne hq =>
      hk e fr' a' w' hs' hso (fun t ht => by
        simp only [writes, List.mem_append, not_or] at ht
        exact hfr t ht.1) hq
    refine wp_seq ?_
    unfold W at h
    split at h
    · refine ihx hd.1 hs h fun e fr' a' w' hs' hso hfr hq => ?_
      cases e with
      | norm => exact hy fr' a' w' hs' hso hfr hq
      | ex id => exact hx _ fr' a' w' hs' hso hfr (by simp) hq
      | ret => exact hx _ fr' a' w' hs' hso hfr (by simp) hq
    · obtain ⟨J, hJ, h⟩ := h
      refine ihx hd.1 hs h fun e fr' a' w' hs' hso hfr hq => ?_
      cases e with
      | norm =>
        refine hy fr' a' w' hs' hso hfr ?_
        have := holdsAt_all hq (hJ fr') w'.heap hq
        rw [setAll_mix hfr] at this
        exact this
      | ex id => exact hx _ fr' a' w' hs' hso hfr (by simp) hq
      | ret => exact hx _ fr' a' w' hs' hso hfr (by simp) hq
  | cond c x y ihx ihy =>
    intro QX Q fr a w hd hs h hk
    unfold dstOk at hd
    rw [Bool.and_eq_true] at hd
    unfold W at h
    split at h
    · rename_i t ht
      have he : a.eval c = .bool t := by rw [hs.eval]; exact ht
      cases t with
      | true =>
        exact wp_cond_true he (ihx hd.1 hs h fun e fr' a' w' hs' hso hfr hq => hk e fr' a' w' hs' hso (fun t ht => hfr t fun hm => ht (List.mem_append_left _ hm)) hq)
      | false =>
        exact wp_cond_false he (ihy hd.2 hs h fun e fr' a' w' hs' hso hfr hq => hk e fr' a' w' hs' hso (fun t ht => hfr t fun hm => ht (List.mem_append_right _ hm)) hq)
    · exact h.elim
  | block id x ih =>
    intro QX Q fr a w hd hs h hk
    refine wp_block (ih hd hs h fun e fr' a' w' hs' hso hfr hq => ?_)
    cases e with
    | norm => exact hk .norm fr' a' w' hs' hso hfr hq
    | ret => exact hk .ret fr' a' w' hs' hso hfr hq
    | ex id' =>
      show if id' = id then QX .normal a' w' else QX (.exit id') a' w'
      dsimp only [blkQ] at hq
      split at hq
      · rename_i hb
        rw [if_pos (Nat.eq_of_beq_eq_true hb)]
        exact hk .norm fr' a' w' hs' hso hfr hq
      · rename_i hb
        rw [if_neg (fun e => by rw [e, Nat.beq_refl] at hb; cases hb)]
        exact hk (.ex id') fr' a' w' hs' hso hfr hq
  | loop x ih =>
    intro QX Q fr a w hdd hs h hk
    unfold W at h
    obtain ⟨I, μ, h0, hI⟩ := h
    generalize hss : (look [] tb.lp (hd x)).map (·.2) = ss at *
    generalize hts : (look [] tb.lp (hd x)).map (·.1) = ts at *
    refine wp_loop (fun a' w' => ∃ fr', Sim n a' fr' ∧ SameOut w w' ∧ (∀ t, t ∉ writes x → fr' t = fr t) ∧ holdsAt ss I (ts.map fr') w'.heap)
      (fun a' w' => muAt ss μ (ts.map fun t => a'.tmps.getD t undef) w'.heap) ⟨fr, hs, .refl _, fun _ _ => rfl, h0⟩ ?_
    rintro a1 w1 ⟨fr1, hs1, hso1, hfr1, hI1⟩
    have hround := holdsAt_all hI1 (hI fr1) w1.heap hI1
    rw [setAll_mix hfr1] at hround
    have hmu : ∀ {a2 : Act} {fr2 : Fr}, Sim n a2 fr2 → (ts.map fun t => a2.tmps.getD t undef) = ts.map fr2 := fun hs2 => List.map_congr_left fun t _ => hs2.get t
    refine ih hdd hs1 hround fun e fr' a' w' hs' hso hfr hq => ?_
    have hfr' : ∀ t, t ∉ writes x → fr' t = fr t := fun t ht => (hfr t ht).trans (hfr1 t ht)
    cases e with
    | norm =>
      show (∃ fr', _) ∧ _
      obtain ⟨h1, h2⟩ := hq
      refine ⟨⟨fr', hs', hso1.trans hso, hfr', h1⟩, ?_⟩
      rw [hmu hs', hmu hs1]
      exact h2
    | ex id => exact hk (.ex id) fr' a' w' hs' (hso1.trans hso) hfr' hq
    | ret => exact hk .ret fr' a' w' hs' (hso1.trans hso) hfr' hq
  | exit id => exact fun hd hs h hk => wp_exit (hk (.ex id) _ _ _ hs (.refl _) (fun _ _ => rfl) h)
  | ret => exact fun hd hs h hk => wp_ret (hk .ret _ _ _ hs (.refl _) (fun _ _ => rfl) h)
  | _ => exact fun hd hs h hk => h.elim

/-- What a function hands back. -/
def resW (fn : Func) (fr : Fr) (K : Value → Heap → Prop) (H : Heap) : Prop :=
  match fn.results.toList with
  | [] => K (.tuple #[]) H
  | [.tmp t] => K (fr t) H
  | [.tmp t, .tmp u] => K (.tuple #[fr t, fr u]) H
  | [.tmp t, .tmp u, .tmp v] => K (.tuple #[fr t, fr u, fr v]) H
  | _ => False

theorem resW_sound {fn : Func} {fr : Fr} {a : Act} {w : World} {K : Value → Heap → Prop} (hs : Sim n a fr) (h : resW fn fr K w.heap) :
    ∃ v, (results fn a.tmps).run P w = .ok v w ∧ K v w.heap := by
  have hr : fn.results = fn.results.toList.toArray := by simp
  unfold resW at h
  split at h
  · rename_i e
    rw [e] at hr
    exact ⟨_, by simp [results, hr], h⟩
  · rename_i t e
    rw [e] at hr
    refine ⟨_, ?_, h⟩
    have h1 := hs.get t
    simp only [Array.getD_eq_getD_getElem?] at h1
    simp [results, hr, h1]
  · rename_i t u e
    rw [e] at hr
    refine ⟨_, ?_, h⟩
    have h1 := hs.get t
    have h2 := hs.get u
    simp only [Array.getD_eq_getD_getElem?] at h1 h2
    simp [results, hr, h1, h2]
  · rename_i t u v e
    rw [e] at hr
    refine ⟨_, ?_, h⟩
    have h1 := hs.get t
    have h2 := hs.get u
    have h3 := hs.get v
    simp only [Array.getD_eq_getD_getElem?] at h1 h2 h3
    simp [results, hr, h1, h2, h3]
  · exact h.elim

def bodyQ (fn : Func) (K : Value → Heap → Prop) : QT
  | .norm, fr, H => resW fn fr K H
  | .ret, fr, H => resW fn fr K H
  | .ex _, _, _ => False
def frL : List Value → Fr
  | [], _ => undef
  | v :: vs, t => match t with | 0 => v | t + 1 => frL vs t

theorem frL_get : ∀ (vs : List Value) (t : Nat), frL vs t = (vs[t]?).getD undef
  | [], t => by simp [frL]
  | v :: vs, 0 => rfl
  | v :: vs, t + 1 => by simp [frL, frL_get vs t]

/-- A whole function, on heaps. -/
def FnW (P : Program) (tb : Tab) (f : FuncId) (args : List Value) (H : Heap) (K : Value → Heap → Prop) : Prop :=
  match P.funcs[f]? with
  | some fn =>
    match fn.body with
    | some c => W P tb c (bodyQ fn K) (frL args) H
    | none => False
  | none => False

def fnOk (P : Program) (f : FuncId) (k : Nat) : Bool :=
  match P.funcs[f]? with
  | some fn =>
    match fn.body with
    | some c => dstOk fn.ntmps c && Nat.ble k fn.ntmps
    | none => false
  | none => false

theorem FnH.of_W {tb : Tab} {f : FuncId} {args : List Value} {H : Heap} {K : Value → Heap → Prop} (hm : P.follows .mixedOrders = true) (hf : isFnB P f = true) (hok : fnOk P f args.length = true)
    (h : FnW P tb f args H K) : FnH P f args.toArray H K := by
  refine ⟨hf, fun w hw => ?_⟩
  subst hw
  unfold FnW at h
  unfold fnOk at hok
  cases hfn : P.funcs[f]? with
  | none => simp [hfn] at h
  | some fn =>
    simp only [hfn] at h hok
    cases hb : fn.body with
    | none => simp [hb] at h
    | some c =>
      simp only [hb, Bool.and_eq_true] at h hok
      have hlen : args.length ≤ fn.ntmps := Nat.le_of_ble_eq_true hok.2
      refine calls_of_wp hfn hb (W_sound hm c hok.1 (fr := frL args) ⟨by simp; omega, fun t => ?_, rfl⟩ h ?_)
      · rw [frL_get]
        by_cases ht : t < args.length
        · simp [ht, Array.getElem?_append]
        · by_cases ht2 : t < fn.ntmps
          · simp [ht, Array.getElem?_append, Array.getElem?_replicate, List.getElem?_eq_none (Nat.le_of_not_lt ht)]
            split <;> rfl
          · simp [ht, Array.getElem?_append, Array.getElem?_replicate, List.getElem?_eq_none (Nat.le_of_not_lt ht)]
            split <;> rfl
      · intro e fr' a' w' hs' hso hfr hq
        cases e with
        | norm =>
          obtain ⟨v, hr, hk⟩ := resW_sound (P := P) hs' hq
          exact ⟨hs'.defers, v, hr, v, rfl, hso, hk⟩
        | ret =>
          obtain ⟨v, hr, hk⟩ := resW_sound (P := P) hs' hq
          exact ⟨hs'.defers, v, hr, v, rfl, hso, hk⟩
        | ex id => exact hq.elim

end

end Go.Fx

namespace Go.Fx
open Go
set_option linter.unusedVariables false

/-! ## The words of the printed functions -/
def Ld (o : Option Value) (K : Value → Prop) (_t : TokT K := ()) : Prop := ∃ v, o = some v ∧ K v
def Rv (R : Value → Prop) (K : Value → Prop) (_t : TokT K := ()) : Prop := ∃ v, R v ∧ K v
def RtI (k : IntKind) (v : Value) (K : Int → Prop) (_t : TokT K := ()) : Prop := ∃ i : Int, v = .int k i ∧ K i
def RtB (v : Value) (K : Bool → Prop) (_t : TokT K := ()) : Prop := ∃ b : Bool, v = .bool b ∧ K b
def RtS (v : Value) (K : ByteArray → Prop) (_t : TokT K := ()) : Prop := ∃ s : ByteArray, v = .string s ∧ K s
def RtP (v : Value) (K : Option Addr → Prop) (_t : TokT K := ()) : Prop := ∃ p : Option Addr, v = .pointer p ∧ K p
def RtL (v : Value) (K : Option Addr → Nat → Nat → Prop) (_t : TokT K := ()) : Prop := ∃ (a : Option Addr) (l c : Nat), v = .slice a l c ∧ K a l c
def RtM (v : Value) (K : Option Nat → Prop) (_t : TokT K := ()) : Prop := ∃ r : Option Nat, v = .map r ∧ K r
def RtA (n : Nat) (v : Value) (K : List Value → Prop) (_t : TokT K := ()) : Prop := ∃ vs, v = .agg ⟨vs⟩ ∧ vs.length = n ∧ K vs
def RtT (n : Nat) (v : Value) (K : List Value → Prop) (_t : TokT K := ()) : Prop := ∃ vs, v = .tuple ⟨vs⟩ ∧ vs.length = n ∧ K vs
def StV (H : Heap) (a : Addr) (n : Nat) (vs : List Value) (K : Heap → Prop) (_t : TokT K := ()) : Prop := vs.length = n ∧ stL H a 0 vs K
def NilC (y : Option Addr) (K : Addr → Prop) (_t : TokT K := ()) : Prop := ∃ a : Addr, y.map (fun a => Value.pointer (some a)) = some (.pointer (some a)) ∧ K a
def Idx (a : Option Addr) (len : Nat) (n : Int) (sz : Nat) (K : Addr → Prop) (_t : TokT K := ()) : Prop :=
  ∃ c : Addr, ((0 ≤ n ∧ n < len) ∧ a.map (fun b => Value.pointer (some (b.add (n.toNat * sz)))) = some (.pointer (some c))) ∧ K c
def StrAt (s : ByteArray) (n : Int) (K : UInt8 → Prop) (_t : TokT K := ()) : Prop :=
  ∃ c : UInt8, (0 ≤ n ∧ (s[n.toNat]?).map (fun c => Value.int .u8 c.toNat) = some (.int .u8 c.toNat)) ∧ K c
def New (H : Heap) (o : Obj) (K : Nat → Heap → Prop) (_t : TokT K := ()) : Prop := K H.size (H.push o)
def str (l : List UInt8) : ByteArray := ⟨⟨l⟩⟩
def At (H : Heap) (K : Heap → Prop) (_t : TokT K := ()) : Prop := K H
def slA (a : Option Addr) (l m : Int) (sz : Nat) : Option Addr := if m.toNat = l.toNat then a else a.map (·.add (l.toNat * sz))
def slN (l h : Int) : Nat := h.toNat - l.toNat
def imin (a b : Int) : Int := if b < a then b else a
def imax (a b : Int) : Int := if a < b then b else a

def Ck (c K : Prop) (_t : TokT K := ()) : Prop := c ∧ K
def Rt0 (v : Value) (K : Prop) (_t : TokT K := ()) : Prop := v = .tuple ⟨[]⟩ ∧ K
def Smk (P : Program) (s : Sem Value) (H : Heap) (K : Value → Heap → Prop) (_t : TokT K := ()) : Prop := Sm P s H K
def SmUk (P : Program) (s : Sem Unit) (H : Heap) (K : Heap → Prop) (_t : TokT K := ()) : Prop := SmU P s H K
def CallK (P : Program) (f : Value) (args : Array Value) (H : Heap) (K : Value → Heap → Prop) (_t : TokT K := ()) : Prop := CallV P f args H K
def NextK (P : Program) (s : Sem Value) (H : Heap) (A : Heap → Prop) (B : Value → Value → Heap → Prop) (_t : TokT A := ()) (_u : TokT B := ()) : Prop := NextM P s H A B
def Jn {α : Type} (A B : α → Prop) (_t : TokT A := ()) (_u : TokT B := ()) : Prop := ∃ J, A J ∧ B J
def Lp {α β : Type} (A B : α → β → Prop) (_t : TokT A := ()) (_u : TokT B := ()) : Prop := ∃ I M, A I M ∧ B I M

end Go.Fx

namespace Go.Fx
open Go
set_option linter.unusedVariables false

/-! ## Evaluation of the words by 'simp': blocks of the heap as terms -/
def cellO (o : Option Obj) (off : Nat) : Option Value :=
  match o with
  | some (.cells c _ _) => c[off]?
  | _ => none
def upd (H : Heap) (b : Nat) (o : Obj) : Heap := H.setIfInBounds b o

@[go_sem] theorem cellH_mk (H : Heap) (b off : Nat) : cellH H ⟨b, off, none⟩ = cellO H[b]? off := by
  unfold cellH cellO
  cases h : H[b]? with
  | none => simp
  | some o => cases o <;> simp
@[go_sem] theorem cellO_some (l : List Value) (t : TypeId) (fz : Nat × Nat) (off : Nat) : cellO (some (.cells ⟨l⟩ t fz)) off = l[off]? := by simp [cellO]
@[go_sem] theorem add_mk (b o : Nat) (n : Nat) : Addr.add ⟨b, o, none⟩ n = ⟨b, o + n, none⟩ := by
  unfold Addr.add
  split
  · rename_i h; subst h; rfl
  · rfl

@[go_sem] theorem size_upd (H : Heap) (b : Nat) (o : Obj) : (upd H b o).size = H.size := by simp [upd]
theorem get_upd_self {H : Heap} {b : Nat} (o : Obj) (h : b < H.size) : (upd H b o)[b]? = some o := by simp [upd, h]
theorem get_upd_ne {H : Heap} {b b' : Nat} (o : Obj) (h : b ≠ b') : (upd H b o)[b']? = H[b']? := by simp [upd, Array.getElem?_setIfInBounds_ne h]
@[go_sem] theorem upd_upd (H : Heap) (b : Nat) (o o' : Obj) : upd (upd H b o) b o' = upd H b o' := by
  unfold upd; exact Array.ext' (by simp)
theorem get_push_self (H : Heap) (o : Obj) : (H.push o)[H.size]? = some o := by simp
theorem get_push_lt {H : Heap} {b : Nat} (o : Obj) (h : b < H.size) : (H.push o)[b]? = H[b]? := by
  rw [Array.getElem?_push]; simp [Nat.ne_of_lt h]
theorem lt_of_get {H : Heap} {b : Nat} {o : Obj} (h : H[b]? = some o) : b < H.size := (Array.getElem?_eq_some_iff.1 h).1
theorem get_push_of {H : Heap} {b : Nat} {o o' : Obj} (h : H[b]? = some o) : (H.push o')[b]? = some o := by rw [get_push_lt _ (lt_of_get h)]; exact h
theorem get_upd_of {H : Heap} {b : Nat} {o o' : Obj} (h : H[b]? = some o) : (upd H b o')[b]? = some o' := get_upd_self o' (lt_of_get h)
theorem upd_push_self (H : Heap) (o o' : Obj) : upd (H.push o) H.size o' = H.push o' := by
  unfold upd; refine Array.ext' ?_; simp

/-- One cell written. -/
def st1 (o : Option Obj) (off : Nat) (v : Value) : Option Obj :=
  match o with
  | some (.cells c t (lo, hi)) => if off < c.size ∧ ¬ (lo ≤ off ∧ off < hi) ∧ v.oneCell = true then some (.cells (c.setIfInBounds off v) t (lo, hi)) else none
  | _ => none
def stN (o : Option Obj) (off : Nat) : List Value → Option Obj
  | [] => o
  | v :: vs => stN (st1 o off v) (off + 1) vs
def StO (o : Option Obj) (H : Heap) (b : Nat) (K : Heap → Prop) (_t : TokT K := ()) : Prop := ∃ o', o = some o' ∧ K (upd H b o')

@[go_sem] theorem one_int (k : IntKind) (n : Int) : (Value.int k n).oneCell = true := rfl
@[go_sem] theorem one_bool (n : Bool) : (Value.bool n).oneCell = true := rfl
@[go_sem] theorem one_string (n : ByteArray) : (Value.string n).oneCell = true := rfl
@[go_sem] theorem one_pointer (n : Option Addr) : (Value.pointer n).oneCell = true := rfl
@[go_sem] theorem one_slice (a : Option Addr) (l c : Nat) : (Value.slice a l c).oneCell = true := rfl
@[go_sem] theorem one_map (n : Option Nat) : (Value.map n).oneCell = true := rfl
@[go_sem] theorem one_func (f : Fn) (a b : Array Value) : (Value.func f a b).oneCell = true := rfl
@[go_sem] theorem st1_some (l : List Value) (t : TypeId) (off : Nat) (v : Value) :
    st1 (some (.cells ⟨l⟩ t (0, 0))) off v = if off < l.length then (if v.oneCell = true then some (.cells ⟨l.set off v⟩ t (0, 0)) else none) else none := by
  by_cases h : off < l.length <;> by_cases hv : v.oneCell = true <;> simp [st1, h, hv]
@[go_sem] theorem stN_nil (o : Option Obj) (off : Nat) : stN o off [] = o := rfl
@[go_sem] theorem stN_cons (o : Option Obj) (off : Nat) (v : Value) (vs : List Value) : stN o off (v :: vs) = stN (st1 o off v) (off + 1) vs := rfl

theorem setCellH_upd {H : Heap} {b off : Nat} {v : Value} {c : Array Value} {t : TypeId} {fz : Nat × Nat} (h : H[b]? = some (.cells c t fz)) :
    setCellH H ⟨b, off, none⟩ v = upd H b (.cells (c.setIfInBounds off v) t fz) := by
  unfold setCellH upd
  have hlt := lt_of_get h
  refine Array.ext_getElem? fun i => ?_
  rw [Array.getElem?_modify, Array.getElem?_setIfInBounds]
  by_cases e : b = i
  · subst e
    rw [if_pos rfl, if_pos rfl, if_pos hlt, h]
    rfl
  · rw [if_neg e, if_neg e]

theorem stN_none : ∀ (vs : List Value) (off : Nat), stN none off vs = none
  | [], _ => rfl
  | v :: vs, off => stN_none vs (off + 1)

theorem stL_iff {K : Heap → Prop} : ∀ (vs : List Value) {H : Heap} {b off i : Nat}, vs ≠ [] → i ≤ off →
    (stL H ⟨b, off - i, none⟩ i vs K ↔ StO (stN H[b]? off vs) H b K)
  | [], H, b, off, i, hne, hi => (hne rfl).elim
  | v :: vs, H, b, off, i, hne, hi => by
    have hadd : Addr.add ⟨b, off - i, none⟩ i = ⟨b, off, none⟩ := by rw [add_mk, show off - i + i = off from by omega]
    rw [stN_cons]
    unfold stL
    rw [hadd]
    cases hHb : H[b]? with
    | none =>
      have e1 : (cellH H ⟨b, off, none⟩).isSome = false := by rw [cellH_mk, hHb]; rfl
      rw [e1]
      have e2 : st1 (none : Option Obj) off v = none := rfl
      rw [e2, stN_none]
      simp [StO]
    | some o =>
      cases o with
      | cells c t fz =>
        obtain ⟨lo, hi'⟩ := fz
        have e1 : (cellH H ⟨b, off, none⟩).isSome = decide (off < c.size) := by
          rw [cellH_mk, hHb]
          simp only [cellO]
          by_cases h : off < c.size
          · simp [h]
          · simp [h]
        have e3 : frozenH H ⟨b, off, none⟩ = (decide (lo ≤ off) && decide (off < hi')) := by simp [frozenH, hHb]
        rw [e1, e3, setCellH_upd hHb]
        by_cases hc : off < c.size ∧ ¬ (lo ≤ off ∧ off < hi') ∧ v.oneCell = true
        · obtain ⟨h1, h2, h3⟩ := hc
          have e2 : st1 (some (.cells c t (lo, hi'))) off v = some (.cells (c.setIfInBounds off v) t (lo, hi')) := by
            unfold st1
            exact if_pos ⟨h1, h2, h3⟩
          rw [e2]
          have h2' : (decide (lo ≤ off) && decide (off < hi')) = false := by
            simp only [Bool.and_eq_false_iff, decide_eq_false_iff_not]
            by_cases e : lo ≤ off
            · exact .inr fun e2 => h2 ⟨e, e2⟩
            · exact .inl e
          simp only [h1, h2', h3, decide_true, true_and]
          cases vs with
          | nil => simp [stL, stN_nil, StO]
          | cons v' vs' =>
            have ih := stL_iff (K := K) (v' :: vs') (H := upd H b (.cells (c.setIfInBounds off v) t (lo, hi'))) (b := b) (off := off + 1) (i := i + 1) (by simp) (by omega)
            rw [show off + 1 - (i + 1) = off - i from by omega] at ih
            rw [ih, get_upd_of hHb]
            simp only [StO, upd_upd]
        · have e2 : st1 (some (.cells c t (lo, hi'))) off v = none := by
            unfold st1
            exact if_neg hc
          rw [e2, stN_none]
          constructor
          · rintro ⟨h3, h1, h2, _⟩
            refine (hc ⟨of_decide_eq_true h1, fun ⟨a1, a2⟩ => ?_, h3⟩).elim
            simp [a1, a2] at h2
          · rintro ⟨o', ho, _⟩
            cases ho
      | _ =>
        have e1 : (cellH H ⟨b, off, none⟩).isSome = false := by rw [cellH_mk, hHb]; rfl
        rw [e1]
        have e2 : ∀ o : Obj, notCells o = true → st1 (some o) off v = none := by
          intro o ho
          cases o <;> first | rfl | cases ho
        rw [e2 _ rfl, stN_none]
        simp [StO]

@[go_sem] theorem StV_mk (H : Heap) (b off n : Nat) (v : Value) (vs : List Value) (K : Heap → Prop) (hn : (v :: vs).length = n) :
    StV H ⟨b, off, none⟩ n (v :: vs) K = StO (stN H[b]? off (v :: vs)) H b K := by
  unfold StV
  refine propext ((and_iff_right hn).trans (stL_iff (v :: vs) (off := off) (i := 0) (by simp) (by omega)))
@[go_sem] theorem StO_some (o : Obj) (H : Heap) (b : Nat) (K : Heap → Prop) : StO (some o) H b K = K (upd H b o) := by simp [StO]

@[go_sem] theorem Ld_some (v : Value) (K : Value → Prop) : Ld (some v) K = K v := by simp [Ld]
@[go_sem] theorem RtI_mk (k : IntKind) (n : Int) (K : Int → Prop) : RtI k (.int k n) K = K n := by simp [RtI]
@[go_sem] theorem RtB_mk (b : Bool) (K : Bool → Prop) : RtB (.bool b) K = K b := by simp [RtB]
@[go_sem] theorem RtS_mk (b : ByteArray) (K : ByteArray → Prop) : RtS (.string b) K = K b := by simp [RtS]
@[go_sem] theorem RtP_mk (b : Option Addr) (K : Option Addr → Prop) : RtP (.pointer b) K = K b := by simp [RtP]
@[go_sem] theorem RtL_mk (a : Option Addr) (l c : Nat) (K : Option Addr → Nat → Nat → Prop) : RtL (.slice a l c) K = K a l c := by
  refine propext ⟨?_, fun h => ⟨a, l, c, rfl, h⟩⟩
  rintro ⟨a', l', c', e, h⟩
  cases e
  exact h
@[go_sem] theorem RtM_mk (b : Option Nat) (K : Option Nat → Prop) : RtM (.map b) K = K b := by simp [RtM]
@[go_sem] theorem RtA_mk (n : Nat) (l : List Value) (K : List Value → Prop) (h : l.length = n) : RtA n (.agg ⟨l⟩) K = K l := by
  refine propext ⟨?_, fun h' => ⟨l, rfl, h, h'⟩⟩
  rintro ⟨vs, e, h⟩
  cases e
  exact h.2
@[go_sem] theorem RtT_mk (n : Nat) (l : List Value) (K : List Value → Prop) (h : l.length = n) : RtT n (.tuple ⟨l⟩) K = K l := by
  refine propext ⟨?_, fun h' => ⟨l, rfl, h, h'⟩⟩
  rintro ⟨vs, e, h⟩
  cases e
  exact h.2
@[go_sem] theorem NilC_some (a : Addr) (K : Addr → Prop) : NilC (some a) K = K a := by simp [NilC]
/-- Once the new block's number is known. -/
def NewN (n : Nat) (H : Heap) (o : Obj) (K : Nat → Heap → Prop) (_t : TokT K := ()) : Prop := K n (H.push o)
@[go_sem] theorem New_eq (H : Heap) (o : Obj) (K : Nat → Heap → Prop) : New H o K = NewN H.size H o K := rfl
theorem NewN_eq (n : Nat) (H : Heap) (o : Obj) (K : Nat → Heap → Prop) : NewN n H o K = K n (H.push o) := rfl
@[go_sem] theorem At_eq (H : Heap) (K : Heap → Prop) : At H K = K H := rfl
attribute [go_sem] Nat.zero_add List.length_cons List.length_nil List.getElem?_cons_zero List.getElem?_cons_succ List.set_cons_zero List.set_cons_succ List.getD_cons_zero List.getD_cons_succ Option.isNone_some Option.isNone_none
@[go_sem] theorem Ck_true (K : Prop) : Ck True K = K := by simp [Ck]
theorem Ck_i {c K : Prop} (h : c) (hk : K) : Ck c K := ⟨h, hk⟩
@[go_sem] theorem Rt0_mk (K : Prop) : Rt0 (.tuple ⟨[]⟩) K = K := by simp [Rt0]
@[go_sem] theorem BrB_true (A B : Prop) : BrB true A B = A := rfl
@[go_sem] theorem BrB_false (A B : Prop) : BrB false A B = B := rfl
theorem BrB_i {b : Bool} {A B : Prop} (h1 : b = true → A) (h2 : b = false → B) : BrB b A B := by cases b <;> simp_all [BrB]
theorem rowV_mk (H : Heap) (b off n : Nat) {l : List Value} {t : TypeId} {fz : Nat × Nat} (h : H[b]? = some (.cells ⟨l⟩ t fz)) (hn : off + n ≤ l.length) :
    rowV H ⟨b, off, none⟩ n = some (.agg ⟨(l.drop off).take n⟩) := by
  have key : ∀ (n i : Nat), off + i + n ≤ l.length → rowO H ⟨b, off, none⟩ i n = some ((l.drop (off + i)).take n) := by
    intro n
    induction n with
    | zero => intro i _; simp [rowO]
    | succ n ih =>
      intro i hi
      unfold rowO
      have e : cellH H (Addr.add ⟨b, off, none⟩ i) = some (l[off + i]'(by omega)) := by
        rw [add_mk, cellH_mk, h, cellO_some]; simp
      rw [e]
      simp only
      rw [ih (i + 1) (by omega)]
      simp only [Option.some.injEq]
      rw [List.drop_eq_getElem_cons (l := l) (i := off + i) (by omega), List.take_succ_cons]
      rfl
  unfold rowV
  rw [key n 0 (by omega)]
  rfl

theorem Idx_i {b off len sz : Nat} {n : Int} {K : Addr → Prop} (h0 : 0 ≤ n) (h1 : n < len) (hk : K ⟨b, off + n.toNat * sz, none⟩) : Idx (some ⟨b, off, none⟩) len n sz K :=
  ⟨⟨b, off + n.toNat * sz, none⟩, ⟨⟨h0, h1⟩, by rw [Option.map_some, add_mk]⟩, hk⟩
theorem StrAt_i {s : ByteArray} {n : Nat} {K : UInt8 → Prop} (h1 : n < s.size) (hk : K (s[n]'h1)) : StrAt s (n : Int) K :=
  ⟨s[n]'h1, ⟨by omega, by simp [h1]⟩, hk⟩

end Go.Fx

namespace Go.Fx
open Go
set_option linter.unusedVariables false

section
variable {P : Program}

theorem wpH_mark (m : Mark) (K : Unit → Heap → Prop) (H : Heap) : wpH P (mark m) K H = K () H := rfl
theorem wpH_askRoom (n : Nat) (K : Unit → Heap → Prop) (H : Heap) : wpH P (askRoom n) K H = K () H := by
  unfold askRoom; split <;> rfl
theorem wpH_program (K : Program → Heap → Prop) (H : Heap) : wpH P program K H = K P H := rfl
theorem wpH_getObj (r : Nat) (K : Obj → Heap → Prop) (H : Heap) : wpH P (getObj r) K H = ∃ o, H[r]? = some o ∧ notCells o = true ∧ K o H := rfl
theorem wpH_setObj (r : Nat) (o : Obj) (K : Unit → Heap → Prop) (H : Heap) : wpH P (setObj r o) K H = ((∃ o', H[r]? = some o' ∧ notCells o' = true) ∧ K () (H.setIfInBounds r o)) := rfl
theorem wpH_choose (q : Question) (K : Nat → Heap → Prop) (H : Heap) : wpH P (choose q) K H = ((q.forced = true → K 0 H) ∧ (q.forced = false → ∀ t, K (q.cut t) H)) := rfl
theorem wpH_newRow (t : TypeId) (c : Array Value) (K : Addr → Heap → Prop) (H : Heap) : wpH P (newRow t c) K H = K ⟨H.size, 0, none⟩ (H.push (.cells c t)) := rfl
theorem wpH_load (a : Addr) (K : Value → Heap → Prop) (H : Heap) : wpH P (load a) K H = ∃ v, cellH H a = some v ∧ K v H := rfl
theorem wpH_ite {α : Type} (c : Prop) [Decidable c] (x y : Sem α) (K : α → Heap → Prop) (H : Heap) : wpH P (if c then x else y) K H = if c then wpH P x K H else wpH P y K H := by split <;> rfl

theorem wpH_loadCellsFrom {a : Addr} {H : Heap} {K : Array Value → Heap → Prop} : ∀ (n i : Nat) (acc : Array Value) (vs : List Value), rowO H a i n = some vs → K (acc ++ vs.toArray) H →
    wpH P (loadCellsFrom a i n acc) K H
  | 0, _, _, vs, h, hk => by simp only [rowO, Option.some.injEq] at h; subst h; simpa [loadCellsFrom, wpH_pure] using hk
  | n + 1, i, acc, vs, h, hk => by
    unfold rowO at h
    cases hv : cellH H (a.add i) with
    | none => simp [hv] at h
    | some v =>
      cases hr : rowO H a (i + 1) n with
      | none => simp [hv, hr] at h
      | some us =>
        simp only [hv, hr, Option.some.injEq] at h
        subst h
        unfold loadCellsFrom
        rw [wpH_bind', wpH_load]
        exact ⟨v, hv, wpH_loadCellsFrom n (i + 1) (acc.push v) us hr (by simpa using hk)⟩
theorem wpH_loadCells {a : Addr} {H : Heap} {K : Array Value → Heap → Prop} {n : Nat} {vs : List Value} (h : rowO H a 0 n = some vs) (hk : K ⟨vs⟩ H) : wpH P (loadCells a n) K H :=
  wpH_loadCellsFrom n 0 #[] vs h (by simpa using hk)

/-- What a slice or a string reads as, from its first element on: so many cells. -/
def SrcH (H : Heap) (sz : Nat) (x : Value) (n : Nat) (vs : List Value) : Prop :=
  match x with
  | .slice (some a) l _ => l = n ∧ rowO H a 0 (n * sz) = some vs
  | .slice none l _ => l = n ∧ vs = []
  | .string s => s.size = n ∧ vs = (s.extract 0 n).data.toList.map fun b => .int .u8 b.toNat
  | _ => False

theorem wpH_lenOf {H : Heap} {sz n : Nat} {x : Value} {vs : List Value} (h : SrcH H sz x n vs) (K : Nat → Heap → Prop) : wpH P (Builtin.lenOf x) K H = K n H := by
  unfold SrcH at h
  split at h
  · obtain ⟨rfl, _⟩ := h; rfl
  · obtain ⟨rfl, _⟩ := h; rfl
  · obtain ⟨rfl, _⟩ := h; rfl
  · exact h.elim
theorem wpH_firstCells {H : Heap} {sz n : Nat} {x : Value} {vs : List Value} (h : SrcH H sz x n vs) {K : Array Value → Heap → Prop} (hk : K ⟨vs⟩ H) : wpH P (Builtin.firstCells sz n x) K H := by
  unfold SrcH at h
  split at h
  · obtain ⟨rfl, h⟩ := h; exact wpH_loadCells h hk
  · obtain ⟨rfl, rfl⟩ := h; exact hk
  · obtain ⟨rfl, rfl⟩ := h
    unfold Builtin.firstCells
    rw [wpH_pure]
    rwa [map_list] at hk
  · exact h.elim

theorem growBy_le (newLen : Nat) : ∀ (r c : Nat), c ≤ 2 * newLen + 768 → Builtin.growBy newLen r c ≤ 2 * newLen + 768
  | 0, c, h => h
  | r + 1, c, h => by
    unfold Builtin.growBy
    split
    · exact h
    · exact growBy_le newLen r _ (by omega)
theorem nextslicecap_le {need cap : Nat} (h : cap < need) : Builtin.nextslicecap need cap ≤ 2 * need + 768 := by
  unfold Builtin.nextslicecap
  split
  · omega
  · split
    · omega
    · exact growBy_le need 4 cap (by omega)

theorem append_wp {T T' e ty : TypeId} {d' : TypeDesc} {i : TypeInfo} {z : Value} {H : Heap} {a : Option Addr} {l c n : Nat} {x : Value} {old new : List Value} {K : Value → Heap → Prop}
    (hT : P.underlying T = some (.slice e)) (hT' : P.underlying T' = some d') (hd : (∃ e', d' = .slice e') ∨ d' = .string) (hi : P.info? e = some i) (hz : i.zero = some z)
    (hx : SrcH H i.size x n new) (ho : SrcH H i.size (.slice a l c) l old) (hb : (2 * (l + n) + 768) * i.bytes ≤ 2 ^ 48) (hn : l + n < 2 ^ 63)
    (hA : l + n ≤ c → match a with | some a => stL H (a.add (l * i.size)) 0 new (K (.slice (some a) (l + n) c)) | none => K (.slice none (l + n) c) H)
    (hB : c < l + n → ∀ nc, l + n ≤ nc → nc < 2 ^ 63 → K (.slice (some ⟨H.size, 0, none⟩) (l + n) nc) (H.push (.cells (⟨old⟩ ++ ⟨new⟩ ++ Builtin.zeroCells z.cells (nc - (l + n))) e))) :
    wpH P (Builtin.append_ #[T, T'] ty ⟨[.slice a l c, x]⟩) K H := by
  unfold Builtin.append_
  have g0 : (#[T, T'])[0]? = some T := rfl
  have g1 : (#[T, T'])[1]? = some T' := rfl
  have g2 : (⟨[.slice a l c, x]⟩ : Array Value)[0]? = some (.slice a l c) := rfl
  have g3 : (⟨[.slice a l c, x]⟩ : Array Value)[1]? = some x := rfl
  rcases hd with ⟨e', rfl⟩ | rfl
  all_goals
    simp only [g0, g1, g2, g3, wpH_bind', wpH_und hT, wpH_und hT', wpH_size hi, wpH_pure, Bool.false_eq_true, if_false, wpH_lenOf hx, Bool.not_false, if_true]
    by_cases hc : l + n ≤ c
    · simp only [if_pos hc, wpH_bind']
      refine wpH_firstCells hx ?_
      have hA := hA hc
      cases a with
      | none => exact hA
      | some a =>
        simp only [wpH_bind', wpH_pure]
        exact storeCells_wp _ _ _ hA
    · have hlt : c < l + n := by omega
      have h1 : ¬ (((l + n : Nat) : Int) > IntKind.i64.max ∧ (False ∨ i.bytes = 0)) := by
        rintro ⟨h, _⟩
        have : IntKind.i64.max = 9223372036854775807 := rfl
        omega
      have h2 : ¬ (Builtin.nextslicecap (l + n) c * i.bytes > 2 ^ 48) := by
        have h3 := nextslicecap_le hlt
        have h4 : Builtin.nextslicecap (l + n) c * i.bytes ≤ (2 * (l + n) + 768) * i.bytes := Nat.mul_le_mul_right _ h3
        omega
      have hq : (Question.appendCap (l + n) c e).forced = false := rfl
      simp only [if_neg hc, wpH_bind', wpH_info hi, if_neg h1, if_neg h2, wpH_pure, wpH_choose, hq, wpH_askRoom]
      refine ⟨fun h => (nomatch h), fun _ t => ?_⟩
      refine wpH_firstCells ho (wpH_firstCells hx ?_)
      rw [wpH_zero hi hz, wpH_newRow]
      have hcut : (Question.appendCap (l + n) c e).cut t = l + n + t % (2 ^ 63 - (l + n)) := rfl
      rw [hcut]
      have hmod : t % (2 ^ 63 - (l + n)) < 2 ^ 63 - (l + n) := Nat.mod_lt _ (by omega)
      exact hB hlt _ (by omega) (by omega)

end
end Go.Fx

namespace Go.Fx
open Go
set_option linter.unusedVariables false
set_option linter.unusedSectionVars false

/-! ## Maps whose keys are strings or ints -/
structure KeyI {κ : Type} [DecidableEq κ] (d : TypeDesc) (inj : κ → Value) : Prop where
  same : ∀ a b, Instr.sameNow d (inj a) (inj b) = some (decide (a = b))
  chk : ∀ (n : Nat) (b : Bool) (P : Program) (t : TypeId) (v : κ) (w : World), P.underlying t = some d → (Instr.checkKey b (n + 1) t (inj v)).run P w = .ok () w
  chkW : ∀ (n : Nat) (b : Bool) (P : Program) (t : TypeId) (v : κ) (K : Unit → Heap → Prop) (H : Heap), P.underlying t = some d → wpH P (Instr.checkKey b (n + 1) t (inj v)) K H = K () H
  bits : ∀ n a, Instr.sameBits n (inj a) (inj a) = true

theorem beq_bytes (a b : ByteArray) : (a == b) = decide (a = b) := by
  rw [Bool.eq_iff_iff]
  cases a; cases b
  simp
  constructor
  · intro h
    have := eq_of_beq (α := Array UInt8) h
    exact this
  · intro h; subst h; exact beq_self_eq_true (α := Array UInt8) _

theorem keyS : KeyI (κ := ByteArray) .string Value.string where
  same a b := by simp only [Instr.sameNow, beq_bytes]
  chk n b P t v w h := by simp [Instr.checkKey, run_und h]
  chkW n b P t v K H h := by unfold Instr.checkKey; rw [wpH_bind', wpH_und h]; rfl
  bits n a := by cases n <;> simp [Instr.sameBits, beq_bytes]
theorem keyInt : KeyI (κ := Int) (.int .i64) (Value.int .i64) where
  same a b := by simp only [Instr.sameNow, if_true, Option.some.injEq]; rw [Bool.eq_iff_iff]; simp
  chk n b P t v w h := by simp [Instr.checkKey, run_und h]
  chkW n b P t v K H h := by unfold Instr.checkKey; rw [wpH_bind', wpH_und h]; rfl
  bits n a := by cases n <;> simp [Instr.sameBits]

section
variable {κ : Type} [DecidableEq κ] {P : Program} {d : TypeDesc} {inj : κ → Value}

def lk (k : κ) : List (κ × Value) → Option Value
  | [] => none
  | p :: ps => if p.1 = k then some p.2 else lk k ps
def lkI (k : κ) : List (κ × Value) → Nat → Option (Nat × Value)
  | [], _ => none
  | p :: ps, i => if p.1 = k then some (i, p.2) else lkI k ps (i + 1)
def ins (k : κ) (v : Value) : List (κ × Value) → List (κ × Value)
  | [] => [(k, v)]
  | p :: ps => if p.1 = k then (k, v) :: ps else p :: ins k v ps
def del (k : κ) : List (κ × Value) → List (κ × Value)
  | [] => []
  | p :: ps => if p.1 = k then ps else p :: del k ps

theorem lkI_lk (k : κ) : ∀ (kvs : List (κ × Value)) (i : Nat), (lkI k kvs i).map (·.2) = lk k kvs
  | [], _ => rfl
  | p :: ps, i => by unfold lkI lk; split <;> simp [lkI_lk k ps]

/-- The entries of a map, and what they read as. -/
structure Ents (inj : κ → Value) (es : List MapEntry) (clk : Nat) (kvs : List (κ × Value)) : Prop where
  kv : es.map (fun e => (e.key, e.val)) = kvs.map fun p => (inj p.1, p.2)
  born : (es.map (·.born)).Pairwise (· < ·)
  clk : ∀ e ∈ es, e.born < clk
  nodup : (kvs.map (·.1)).Nodup

/-- A block is a map that reads as these pairs. -/
def MapIs (inj : κ → Value) (o : Obj) (kvs : List (κ × Value)) : Prop := ∃ es clk, o = .map es clk ∧ Ents inj es.toList clk kvs

theorem MapIs.made (inj : κ → Value) : MapIs inj (.map ⟨[]⟩ 0) ([] : List (κ × Value)) :=
  ⟨_, _, rfl, ⟨rfl, List.Pairwise.nil, fun e he => (by cases he), List.nodup_nil⟩⟩

theorem findNow_lkI (hk : KeyI d inj) (k : κ) : ∀ (es : List MapEntry) (kvs : List (κ × Value)) (i : Nat), es.map (fun e => (e.key, e.val)) = kvs.map (fun p => (inj p.1, p.2)) →
    Instr.findNow d (inj k) es i = some (lkI k kvs i)
  | [], [], _, _ => rfl
  | [], _ :: _, _, h => by cases h
  | _ :: _, [], _, h => by cases h
  | e :: es, p :: ps, i, h => by
    simp only [List.map_cons, List.cons.injEq, Prod.mk.injEq] at h
    obtain ⟨⟨h1, h2⟩, h3⟩ := h
    unfold Instr.findNow lkI
    rw [h1, hk.same]
    by_cases hc : p.1 = k
    · simp [hc, h2]
    · have hc' : ¬ k = p.1 := fun e => hc e.symm
      simp [hc, hc', findNow_lkI hk k es ps (i + 1) h3]

theorem run_findKey (hk : KeyI d inj) {t : TypeId} (ht : P.underlying t = some d) {es : List MapEntry} {clk : Nat} {kvs : List (κ × Value)} (h : Ents inj es clk kvs) (k : κ) (w : World) :
    (Instr.findKey t (inj k) es).run P w = .ok (lkI k kvs 0) w := by
  unfold Instr.findKey
  simp only [Sem.run_bind, run_und ht, Result.andThen_ok, findNow_lkI hk k es kvs 0 h.kv]
  rfl
theorem wpH_findKey (hk : KeyI d inj) {t : TypeId} (ht : P.underlying t = some d) {es : List MapEntry} {clk : Nat} {kvs : List (κ × Value)} (h : Ents inj es clk kvs) (k : κ)
    (K : Option (Nat × Value) → Heap → Prop) (H : Heap) : wpH P (Instr.findKey t (inj k) es) K H = K (lkI k kvs 0) H := by
  unfold Instr.findKey
  rw [wpH_bind', wpH_und ht]
  simp only [findNow_lkI hk k es kvs 0 h.kv]
  rfl

theorem run_getObj {w : World} {r : Nat} {o : Obj} (h : w.heap[r]? = some o) (hn : notCells o = true) : (getObj r).run P w = .ok o w := by
  cases o <;> first | (cases hn; done) | simp [getObj, Sem.run, h]

/-- 'm[k]', 'v, ok := m[k]'. -/
theorem lookup_rd (hk : KeyI d inj) {T t e : TypeId} {i : TypeInfo} {z : Value} (hT : P.underlying T = some (.map t e)) (ht : P.underlying t = some d) (hi : P.info? e = some i) (hz : i.zero = some z)
    {H : Heap} {m : Nat} {o : Obj} {kvs : List (κ × Value)} (hm : H[m]? = some o) (ho : MapIs inj o kvs) (k : κ) (ok : Bool) :
    Rd P (Instr.lookup T (.map (some m)) (inj k) ok) H (if ok then .tuple ⟨[(lk k kvs).getD z, .bool (lk k kvs).isSome]⟩ else (lk k kvs).getD z) := by
  intro w hw
  subst hw
  obtain ⟨es, clk, rfl, hE⟩ := ho
  have h1 := run_getObj (P := P) hm rfl
  have h2 : (Instr.checkKey es.isEmpty 10000 t (inj k)).run P w = .ok () w := hk.chk 9999 _ P t k w ht
  have h3 := run_findKey hk ht hE k w
  have h4 := lkI_lk k kvs 0
  simp only [Instr.lookup, Sem.run_bind, run_und hT, Result.andThen_ok, h1, Sem.run_pure, h2, h3]
  cases hl : lkI k kvs 0 with
  | none =>
    rw [hl] at h4
    simp only [Option.map_none] at h4
    simp only [← h4, Sem.run_bind, run_zero hi hz, Result.andThen_ok, Sem.run_pure, Option.getD_none, Option.isSome_none]
    try (cases ok <;> rfl)
  | some x =>
    rw [hl] at h4
    simp only [Option.map_some] at h4
    simp only [← h4, Sem.run_pure, Result.andThen_ok, Option.getD_some, Option.isSome_some]
    try (cases ok <;> rfl)

theorem mapLen_rd {T t e ty : TypeId} (hT : P.underlying T = some (.map t e)) {H : Heap} {m : Nat} {o : Obj} {kvs : List (κ × Value)} (hm : H[m]? = some o) (ho : MapIs inj o kvs) :
    Rd P (Builtin.len_ #[T] ty #[.map (some m)]) H (.int .i64 (kvs.length : Int)) := by
  intro w hw
  subst hw
  obtain ⟨es, clk, rfl, hE⟩ := ho
  have h1 := run_getObj (P := P) hm rfl
  have h2 : es.size = kvs.length := by
    have := congrArg List.length hE.kv
    simpa using this
  simp [Builtin.len_, run_und hT, h1, goInt, h2]

theorem lkI_none {k : κ} {v : Value} : ∀ {kvs : List (κ × Value)} {i : Nat}, lkI k kvs i = none → ins k v kvs = kvs ++ [(k, v)] ∧ k ∉ kvs.map (·.1)
  | [], _, _ => ⟨rfl, by simp⟩
  | p :: ps, i, h => by
    unfold lkI at h
    split at h
    · cases h
    · rename_i hne
      obtain ⟨h1, h2⟩ := lkI_none (v := v) h
      refine ⟨by simp [ins, hne, h1], ?_⟩
      simp only [List.map_cons, List.mem_cons, not_or]
      exact ⟨fun e => hne e.symm, h2⟩

theorem lkI_some {k : κ} : ∀ {kvs : List (κ × Value)} {i j : Nat} {x : Value}, lkI k kvs i = some (j, x) → ∃ l1 l2, kvs = l1 ++ (k, x) :: l2 ∧ j = i + l1.length ∧ k ∉ l1.map (·.1)
  | [], _, _, _, h => by cases h
  | p :: ps, i, j, x, h => by
    unfold lkI at h
    split at h
    · rename_i he
      cases h
      exact ⟨[], ps, by simp [← he], by simp, by simp⟩
    · rename_i hne
      obtain ⟨l1, l2, h1, h2, h3⟩ := lkI_some h
      refine ⟨p :: l1, l2, by rw [h1]; rfl, by simp; omega, ?_⟩
      simp only [List.map_cons, List.mem_cons, not_or]
      exact ⟨fun e => hne e.symm, h3⟩

theorem ins_mid {k : κ} {v x : Value} : ∀ {l1 l2 : List (κ × Value)}, k ∉ l1.map (·.1) → ins k v (l1 ++ (k, x) :: l2) = l1 ++ (k, v) :: l2
  | [], l2, _ => by simp [ins]
  | p :: l1, l2, h => by
    simp only [List.map_cons, List.mem_cons, not_or] at h
    have hne : ¬ p.1 = k := fun e => h.1 e.symm
    simp [ins, hne, ins_mid h.2]
theorem del_mid {k : κ} {x : Value} : ∀ {l1 l2 : List (κ × Value)}, k ∉ l1.map (·.1) → del k (l1 ++ (k, x) :: l2) = l1 ++ l2
  | [], l2, _ => by simp [del]
  | p :: l1, l2, h => by
    simp only [List.map_cons, List.mem_cons, not_or] at h
    have hne : ¬ p.1 = k := fun e => h.1 e.symm
    simp [del, hne, del_mid h.2]
theorem del_none {k : κ} : ∀ {kvs : List (κ × Value)}, k ∉ kvs.map (·.1) → del k kvs = kvs
  | [], _ => rfl
  | p :: ps, h => by
    simp only [List.map_cons, List.mem_cons, not_or] at h
    have hne : ¬ p.1 = k := fun e => h.1 e.symm
    simp [del, hne, del_none h.2]

theorem modify_mid {α : Type} (f : α → α) (x : α) (l2 l1 : List α) : (l1 ++ x :: l2).modify l1.length f = l1 ++ f x :: l2 := by
  induction l1 with
  | nil => rfl
  | cons y l1 ih => simpa using ih

/-- The entries around the one that was found. -/
theorem Ents.split {es : List MapEntry} {clk : Nat} {l1 l2 : List (κ × Value)} {k : κ} {x : Value} (h : Ents inj es clk (l1 ++ (k, x) :: l2)) :
    ∃ e1 e e2, es = e1 ++ e :: e2 ∧ e1.length = l1.length ∧ e.key = inj k ∧ e.val = x ∧ e1.map (fun e => (e.key, e.val)) = l1.map (fun p => (inj p.1, p.2)) ∧ e2.map (fun e => (e.key, e.val)) = l2.map fun p => (inj p.1, p.2) := by
  have hkv := h.kv
  simp only [List.map_append, List.map_cons] at hkv
  obtain ⟨e1, r, hes, h1, h2⟩ := List.map_eq_append_iff.1 hkv
  obtain ⟨e, e2, hr, h3, h4⟩ := List.map_eq_cons_iff.1 h2
  subst hes hr
  simp only [Prod.mk.injEq] at h3
  refine ⟨e1, e, e2, rfl, ?_, h3.1, h3.2, h1, h4⟩
  have := congrArg List.length h1
  simpa using this

theorem wpH_mapUpdate (hk : KeyI d inj) {T t e : TypeId} (hT : P.underlying T = some (.map t e)) (ht : P.underlying t = some d)
    {H : Heap} {m : Nat} {o : Obj} {kvs : List (κ × Value)} (hm : H[m]? = some o) (ho : MapIs inj o kvs) (k : κ) (v : Value) {K : Heap → Prop}
    (hK : ∀ o', MapIs inj o' (ins k v kvs) → K (upd H m o')) : wpH P (Instr.mapUpdate T (.map (some m)) (inj k) v) (fun _ H => K H) H := by
  obtain ⟨es, clk, rfl, hE⟩ := ho
  unfold Instr.mapUpdate
  have hchk : ∀ (b : Bool) (K : Unit → Heap → Prop) (H : Heap), wpH P (Instr.checkKey b 10000 t (inj k)) K H = K () H := fun b K H => hk.chkW 9999 b P t k K H ht
  have hfind := fun K H => wpH_findKey (P := P) hk ht hE k K H
  rw [wpH_bind', wpH_und hT]
  simp only [wpH_bind', wpH_getObj]
  refine ⟨_, hm, rfl, ?_⟩
  simp only [wpH_bind', hchk, hfind]
  cases hl : lkI k kvs 0 with
  | none =>
    obtain ⟨h1, h2⟩ := lkI_none (v := v) hl
    simp only [wpH_setObj]
    refine ⟨⟨_, hm, rfl⟩, hK _ ⟨_, _, rfl, ?_⟩⟩
    rw [h1]
    refine ⟨by simp [hE.kv], ?_, ?_, ?_⟩
    · simp only [Array.toList_push, List.map_append, List.map_cons, List.map_nil]
      refine List.pairwise_append.2 ⟨hE.born, by simp, fun a ha b hb => ?_⟩
      obtain ⟨x, hx, rfl⟩ := List.mem_map.1 ha
      simp only [List.mem_singleton] at hb
      subst hb
      exact hE.clk x hx
    · intro x hx
      simp only [Array.toList_push, List.mem_append, List.mem_singleton] at hx
      rcases hx with hx | rfl
      · have := hE.clk x hx; omega
      · show clk < clk + 1; omega
    · simp only [List.map_append, List.map_cons, List.map_nil]
      refine List.nodup_append.2 ⟨hE.nodup, by simp, fun a ha b hb => ?_⟩
      simp only [List.mem_singleton] at hb
      subst hb
      exact fun e => h2 (e ▸ ha)
  | some jx =>
    obtain ⟨j, x⟩ := jx
    obtain ⟨l1, l2, rfl, hj, hn⟩ := lkI_some hl
    simp only [Nat.zero_add] at hj
    obtain ⟨e1, ee, e2, hes, hlen, hkey, hval, hm1, hm2⟩ := hE.split
    have hje : es[j]? = some ee := by
      rw [← Array.getElem?_toList, hes, hj, ← hlen]
      simp
    simp only [wpH_bind', hje, Option.map_some, Option.getD_some, hkey]
    unfold Instr.keyThatStays
    rw [if_pos (hk.bits _ _), wpH_pure]
    simp only [wpH_setObj]
    refine ⟨⟨_, hm, rfl⟩, hK _ ⟨_, _, rfl, ?_⟩⟩
    rw [ins_mid hn]
    have hmod : (es.modify j fun e => { e with key := inj k, val := v }).toList = e1 ++ { ee with key := inj k, val := v } :: e2 := by
      rw [Array.toList_modify, hes, hj, ← hlen]
      exact modify_mid _ _ _ _
    rw [hmod]
    refine ⟨by simp [hm1, hm2], ?_, ?_, ?_⟩
    · have := hE.born
      rw [hes] at this
      simpa using this
    · intro y hy
      have := hE.clk
      rw [hes] at this
      rcases List.mem_append.1 hy with hy | hy
      · exact this y (List.mem_append_left _ hy)
      · rcases List.mem_cons.1 hy with rfl | hy
        · exact this ee (by simp)
        · exact this y (by simp [hy])
    · have := hE.nodup
      simp only [List.map_append, List.map_cons] at this ⊢
      exact this

theorem wpH_delete (hk : KeyI d inj) {T t e T' ty : TypeId} (hT : P.underlying T = some (.map t e)) (ht : P.underlying t = some d)
    {H : Heap} {m : Nat} {o : Obj} {kvs : List (κ × Value)} (hm : H[m]? = some o) (ho : MapIs inj o kvs) (k : κ) {K : Value → Heap → Prop}
    (hK : ∀ o', MapIs inj o' (del k kvs) → K (.tuple ⟨[]⟩) (upd H m o')) : wpH P (Builtin.delete_ #[T, T'] ty ⟨[.map (some m), inj k]⟩) K H := by
  obtain ⟨es, clk, rfl, hE⟩ := ho
  unfold Builtin.delete_
  have g0 : (#[T, T'])[0]? = some T := rfl
  have g2 : (⟨[.map (some m), inj k]⟩ : Array Value)[0]? = some (.map (some m)) := rfl
  have g3 : (⟨[.map (some m), inj k]⟩ : Array Value)[1]? = some (inj k) := rfl
  have hchk : ∀ (b : Bool) (K : Unit → Heap → Prop) (H : Heap), wpH P (Instr.checkKey b 10000 t (inj k)) K H = K () H := fun b K H => hk.chkW 9999 b P t k K H ht
  have hfind := fun K H => wpH_findKey (P := P) hk ht hE k K H
  simp only [g0, g2, g3, wpH_bind', wpH_und hT, wpH_getObj]
  refine ⟨_, hm, rfl, ?_⟩
  simp only [wpH_bind', hchk, hfind]
  cases hl : lkI k kvs 0 with
  | none =>
    obtain ⟨h1, h2⟩ := lkI_none (v := undef) hl
    simp only [wpH_setObj, wpH_pure]
    refine ⟨⟨_, hm, rfl⟩, hK _ ⟨_, _, rfl, ?_⟩⟩
    rw [del_none h2]
    exact hE
  | some jx =>
    obtain ⟨j, x⟩ := jx
    obtain ⟨l1, l2, rfl, hj, hn⟩ := lkI_some hl
    simp only [Nat.zero_add] at hj
    obtain ⟨e1, ee, e2, hes, hlen, hkey, hval, hm1, hm2⟩ := hE.split
    simp only [wpH_setObj, wpH_pure]
    refine ⟨⟨_, hm, rfl⟩, hK _ ⟨_, _, rfl, ?_⟩⟩
    rw [del_mid hn]
    have hers : (es.eraseIdxIfInBounds j).toList = e1 ++ e2 := by
      have hlt : j < es.size := by
        have := congrArg List.length hes
        simp at this
        omega
      rw [Array.eraseIdxIfInBounds, dif_pos hlt, Array.toList_eraseIdx, hes, hj, ← hlen]
      rw [List.eraseIdx_append_of_length_le (by omega)]
      simp
    rw [hers]
    refine ⟨by simp [hm1, hm2], ?_, ?_, ?_⟩
    · have := hE.born
      rw [hes] at this
      simp only [List.map_append, List.map_cons] at this ⊢
      obtain ⟨p1, p2, p3⟩ := List.pairwise_append.1 this
      exact List.pairwise_append.2 ⟨p1, (List.pairwise_cons.1 p2).2, fun a ha b hb => p3 a ha b (List.mem_cons_of_mem _ hb)⟩
    · intro y hy
      have := hE.clk
      rw [hes] at this
      rcases List.mem_append.1 hy with hy | hy
      · exact this y (List.mem_append_left _ hy)
      · exact this y (by simp [hy])
    · have := hE.nodup
      simp only [List.map_append, List.map_cons] at this ⊢
      obtain ⟨p1, p2, p3⟩ := List.nodup_append.1 this
      exact List.nodup_append.2 ⟨p1, (List.nodup_cons.1 p2).2, fun a ha b hb => p3 a ha b (List.mem_cons_of_mem _ hb)⟩

end
end Go.Fx

namespace Go.Fx
open Go
set_option linter.unusedVariables false
set_option linter.unusedSectionVars false

section
variable {κ : Type} [DecidableEq κ] {P : Program} {d : TypeDesc} {inj : κ → Value}

/-- Block 'it' goes over the map in block 'm'; 'todo' is still to come. -/
def IterAt (inj : κ → Value) (H : Heap) (it m : Nat) (kvs todo : List (κ × Value)) : Prop :=
  ∃ es clk seen, H[m]? = some (.map es clk) ∧ H[it]? = some (.mapIter (some m) clk seen clk) ∧ Ents inj es.toList clk kvs ∧
    (es.toList.filter fun e => !seen.contains e.born).map (fun e => (e.key, e.val)) = todo.map (fun p => (inj p.1, p.2)) ∧ todo.Sublist kvs

theorem IterAt.ne {H : Heap} {it m : Nat} {kvs todo : List (κ × Value)} (h : IterAt inj H it m kvs todo) : it ≠ m := by
  obtain ⟨es, clk, seen, h1, h2, _⟩ := h
  intro e
  subst e
  rw [h1] at h2
  cases h2

theorem IterAt.keep {H H' : Heap} {it m : Nat} {kvs todo : List (κ × Value)} (h : IterAt inj H it m kvs todo) (h1 : H'[it]? = H[it]?) (h2 : H'[m]? = H[m]?) : IterAt inj H' it m kvs todo := by
  obtain ⟨es, clk, seen, a, b, c⟩ := h
  exact ⟨es, clk, seen, h2.trans a, h1.trans b, c⟩

theorem range_wp {T t e : TypeId} (hT : P.underlying T = some (.map t e)) {H : Heap} {m : Nat} {o : Obj} {kvs : List (κ × Value)} (hm : H[m]? = some o) (ho : MapIs inj o kvs) {K : Value → Heap → Prop}
    (hK : ∀ o', IterAt inj (H.push o') H.size m kvs kvs → K (.pointer (some ⟨H.size, 0, none⟩)) (H.push o')) : wpH P (Instr.range T (.map (some m))) K H := by
  obtain ⟨es, clk, rfl, hE⟩ := ho
  unfold Instr.range
  simp only [wpH_bind', wpH_und hT, wpH_getObj, wpH_pure, wpH_new]
  refine ⟨_, hm, rfl, hK _ ⟨es, clk, #[], get_push_of hm, get_push_self _ _, hE, ?_, List.Sublist.refl _⟩⟩
  have : (es.toList.filter fun e => !(#[] : Array Nat).contains e.born) = es.toList := by simp
  rw [this]
  exact hE.kv

theorem born_inj {l : List MapEntry} (h : l.Pairwise fun a b => a.born < b.born) {a b : MapEntry} (ha : a ∈ l) (hb : b ∈ l) (e : a.born = b.born) : a = b := by
  induction l with
  | nil => cases ha
  | cons x xs ih =>
    obtain ⟨h1, h2⟩ := List.pairwise_cons.1 h
    rcases List.mem_cons.1 ha with ea | ha'
    · rcases List.mem_cons.1 hb with eb | hb'
      · rw [ea, eb]
      · have := h1 b hb'; rw [ea] at e; omega
    · rcases List.mem_cons.1 hb with eb | hb'
      · have := h1 a ha'; rw [eb] at e; omega
      · exact ih h2 ha' hb'

/-- What a step leaves. -/
theorem next_wp {ty : TypeId} {H : Heap} {it m : Nat} {kvs todo : List (κ × Value)} (h : IterAt inj H it m kvs todo) {A : Heap → Prop} {B : Value → Value → Heap → Prop}
    (hnil : todo = [] → A H)
    (hcons : ∀ k v l1 l2 o', todo = l1 ++ (k, v) :: l2 → IterAt inj (upd H it o') it m kvs (l1 ++ l2) →
      (∀ H'' : Heap, H''[it]? = some o' → H''[m]? = H[m]? → Rd P (Instr.entry (.pointer (some ⟨it, 0, none⟩))) H'' (.tuple ⟨[inj k, v]⟩)) → B (inj k) v (upd H it o')) :
    NextM P (Instr.next (.pointer (some ⟨it, 0, none⟩)) false ty) H A B := by
  have hne := h.ne
  obtain ⟨es, clk, seen, h1, h2, hE, htodo, hsub⟩ := h
  unfold NextM Instr.next
  simp only [wpH_bind', wpH_getObj]
  refine ⟨_, h2, rfl, ?_⟩
  simp only [wpH_bind', wpH_getObj]
  refine ⟨_, h1, rfl, ?_⟩
  have hz : (!seen.isEmpty && !es.isEmpty && es.all (·.born ≥ clk)) = false := by
    cases hes : es.isEmpty with
    | true => simp
    | false =>
      have : es.all (·.born ≥ clk) = false := by
        rw [Bool.eq_false_iff]
        intro hall
        rw [Array.all_eq_true'] at hall
        have hsz : 0 < es.size := by
          rcases Nat.eq_zero_or_pos es.size with h | h
          · rw [Array.isEmpty_iff_size_eq_zero.2 h] at hes; cases hes
          · exact h
        have hmem : es[0] ∈ es := Array.getElem_mem hsz
        have g1 := hE.clk es[0] (Array.mem_toList_iff.2 hmem)
        have g2 := of_decide_eq_true (hall _ hmem)
        omega
      simp [this]
  dsimp only
  rw [hz]
  simp only [Bool.false_eq_true, if_false, wpH_bind', wpH_choose]
  -- what is left
  have hleft : (es.filter fun e => !seen.contains e.born).toList = es.toList.filter fun e => !seen.contains e.born := by simp
  have hold : ((es.filter fun e => !seen.contains e.born).filter fun e => e.born < clk) = es.filter fun e => !seen.contains e.born := by
    apply Array.ext'
    simp only [Array.toList_filter]
    rw [List.filter_eq_self]
    intro a ha
    exact decide_eq_true (hE.clk a (List.mem_filter.1 ha).1)
  have hnew : ((es.filter fun e => !seen.contains e.born).filter fun e => e.born ≥ clk) = #[] := by
    apply Array.ext'
    simp only [Array.toList_filter]
    rw [List.filter_eq_nil_iff]
    intro a ha
    have := hE.clk a (List.mem_filter.1 ha).1
    simp; omega
  rw [hold, hnew]
  generalize hL : (es.filter fun e => !seen.contains e.born) = L at *
  have hLl : L.toList.map (fun e => (e.key, e.val)) = todo.map fun p => (inj p.1, p.2) := by rw [hleft]; exact htodo
  cases hLL : L.toList with
  | nil =>
    have hL0 : L = #[] := Array.toList_inj.1 hLL
    have ht0 : todo = [] := by
      rw [hLL] at hLl
      cases todo with
      | nil => rfl
      | cons x xs => cases hLl
    rw [hL0]
    have hcand : ((if (#[] : Array MapEntry).isEmpty = true then #[none] else #[]) ++ Array.map some ((#[] : Array MapEntry) ++ #[])) = (#[none] : Array (Option MapEntry)) := by simp
    rw [hcand]
    refine ⟨fun _ => ?_, fun hf => ?_⟩
    · exact .inl ⟨rfl, hnil ht0⟩
    · cases hf
  | cons e0 L0 =>
    have hL1 : L.isEmpty = false := by
      rw [Bool.eq_false_iff]
      intro h
      rw [Array.isEmpty_iff] at h
      rw [h] at hLL
      cases hLL
    have hcand : ((if L.isEmpty = true then #[none] else #[]) ++ Array.map some (L ++ #[])) = L.map some := by
      rw [hL1]; simp
    rw [hcand]
    have hsz : 0 < L.size := by
      have := congrArg List.length hLL
      simp at this
      omega
    have key : ∀ n, n < L.size → wpH P (match (L.map some)[n]? with
          | some (some e) => (do
            setObj it (.mapIter (some m) clk (seen.push e.born) clk)
            pure (.tuple #[.bool true, e.key, e.val]) : Sem Value)
          | some none => pure (.tuple #[.bool false])
          | none => stuck "Next: no such candidate") (fun v H' => (v = .tuple #[.bool false] ∧ A H') ∨ ∃ k x, v = .tuple #[.bool true, k, x] ∧ B k x H') H := by
      intro n hn
      have hget : L[n]? = some L[n] := Array.getElem?_eq_getElem hn
      rw [Array.getElem?_map, hget]
      simp only [Option.map_some, wpH_bind', wpH_setObj, wpH_pure]
      refine ⟨⟨_, h2, rfl⟩, .inr ⟨_, _, rfl, ?_⟩⟩
      -- the pair that has come
      have hsplit : L.toList = L.toList.take n ++ L[n] :: L.toList.drop (n + 1) := by
        have hn' : n < L.toList.length := by simpa using hn
        have h3 := List.drop_eq_getElem_cons hn'
        have h4 : L.toList[n]'hn' = L[n] := by simp
        rw [h4] at h3
        rw [← h3, List.take_append_drop]
      have hm1 := hLl
      rw [hsplit] at hm1
      simp only [List.map_append, List.map_cons] at hm1
      obtain ⟨l1, r, htd, g1, g2⟩ := List.map_eq_append_iff.1 hm1.symm
      obtain ⟨p, l2, hr, g3, g4⟩ := List.map_eq_cons_iff.1 g2
      subst hr
      simp only [Prod.mk.injEq] at g3
      obtain ⟨k, v⟩ := p
      rw [← g3.1, ← g3.2]
      have hmemL : L[n] ∈ es.toList.filter fun e => !seen.contains e.born := by
        rw [← hleft]
        exact Array.mem_toList_iff.2 (Array.getElem_mem hn)
      have hmem := (List.mem_filter.1 hmemL).1
      have hborn := List.pairwise_map.1 hE.born
      have huniq : ∀ a ∈ es.toList, a.born = L[n].born → a = L[n] := fun a ha e => born_inj hborn ha hmem e
      refine hcons k v l1 l2 _ htd ⟨es, clk, seen.push L[n].born, ?_, ?_, hE, ?_, ?_⟩ ?_
      · rw [get_upd_ne _ hne]; exact h1
      · exact get_upd_of h2
      · have e1 : (es.toList.filter fun e => !(seen.push L[n].born).contains e.born) = (es.toList.filter fun e => !seen.contains e.born).filter fun e => !(e.born == L[n].born) := by
          rw [List.filter_filter]
          refine List.filter_congr fun x _ => ?_
          simp only [Array.contains_push, Bool.not_or]
          rw [Bool.and_comm]
        rw [e1, ← hleft, hsplit, List.filter_append, List.filter_cons]
        have hpw : (L.toList.take n ++ L[n] :: L.toList.drop (n + 1)).Pairwise fun a b => a.born < b.born := by
          rw [← hsplit, hleft]
          exact hborn.filter _
        obtain ⟨_, p2, p3⟩ := List.pairwise_append.1 hpw
        have p4 := (List.pairwise_cons.1 p2).1
        rw [List.filter_eq_self.2 (fun a ha => by have := p3 a ha L[n] (List.mem_cons_self ..); simp; omega),
          List.filter_eq_self.2 (fun a ha => by have := p4 a ha; simp; omega)]
        simp only [beq_self_eq_true, Bool.not_true, Bool.false_eq_true, if_false, List.map_append]
        rw [g1, g4]
      · rw [htd] at hsub
        exact List.Sublist.trans (List.Sublist.append (List.Sublist.refl _) (List.sublist_cons_self _ _)) hsub
      · intro H'' q1 q2 w hw
        subst hw
        have r1 := run_getObj (P := P) q1 rfl
        have r2 := run_getObj (P := P) (q2.trans h1) rfl
        have r3 : es.find? (fun e => e.born == L[n].born) = some L[n] := by
          rw [← Array.find?_toList]
          cases hf : es.toList.find? (fun e => e.born == L[n].born) with
          | none =>
            have := List.find?_eq_none.1 hf L[n] hmem
            simp at this
          | some y =>
            have y1 := List.mem_of_find?_eq_some hf
            have y2 := List.find?_some hf
            rw [huniq y y1 (by simpa using y2)]
        simp only [Instr.entry, Sem.run_bind, r1, Result.andThen_ok, Array.back?_push, r2, bne_self_eq_false, Bool.false_eq_true, if_false, Sem.run_pure, r3]
        have g5 : v = L[n].val := g3.2
        rw [g3.1, g5]
    refine ⟨fun hf => ?_, fun hf t => ?_⟩
    · exact key 0 hsz
    · refine key _ ?_
      show t % (L.map some).size < L.size
      simp only [Array.size_map]
      exact Nat.mod_lt _ hsz

end
end Go.Fx

namespace Go.Fx
open Go
set_option linter.unusedVariables false

/-! ## Coloured heaps: each block has an owner and a part in it; the owner 0 never writes -/
abbrev Lab := Nat × Nat
abbrev Col := Nat → Lab
structure Ev (S : Lab → Prop) (H : Heap) (C : Col) (H' : Heap) (C' : Col) : Prop where
  size : H.size ≤ H'.size
  col : ∀ b, b < H.size → C' b = C b
  keep : ∀ b, b < H.size → ¬ S (C b) → H'[b]? = H[b]?

def own (k : Nat) : Lab → Prop := fun l => l.1 = k
def at1 (l : Lab) : Lab → Prop := fun x => x = l
def no : Lab → Prop := fun _ => False
def setC (C : Col) (b : Nat) (l : Lab) : Col := fun x => if x = b then l else C x

theorem setC_self (C : Col) (b : Nat) (l : Lab) : setC C b l b = l := by simp [setC]
theorem setC_ne {C : Col} {b x : Nat} {l : Lab} (h : x ≠ b) : setC C b l x = C x := by simp [setC, h]

theorem Ev.refl (S : Lab → Prop) (H : Heap) (C : Col) : Ev S H C H C := ⟨Nat.le_refl _, fun _ _ => rfl, fun _ _ _ => rfl⟩
theorem Ev.mono {S S' : Lab → Prop} {H H' : Heap} {C C' : Col} (h : Ev S H C H' C') (hs : ∀ l, S l → S' l) : Ev S' H C H' C' :=
  ⟨h.size, h.col, fun b hb hn => h.keep b hb fun hS => hn (hs _ hS)⟩
theorem Ev.trans {S : Lab → Prop} {H H' H'' : Heap} {C C' C'' : Col} (h : Ev S H C H' C') (h' : Ev S H' C' H'' C'') : Ev S H C H'' C'' :=
  ⟨Nat.le_trans h.size h'.size, fun b hb => (h'.col b (Nat.lt_of_lt_of_le hb h.size)).trans (h.col b hb), fun b hb hn =>
    (h'.keep b (Nat.lt_of_lt_of_le hb h.size) (by rw [h.col b hb]; exact hn)).trans (h.keep b hb hn)⟩
theorem Ev.push {S : Lab → Prop} {H H' : Heap} {C C' : Col} (h : Ev S H C H' C') (o : Obj) : Ev S H C (H'.push o) C' :=
  ⟨by simp; have := h.size; omega, h.col, fun b hb hn => by rw [get_push_lt _ (Nat.lt_of_lt_of_le hb h.size)]; exact h.keep b hb hn⟩
theorem Ev.paint {S : Lab → Prop} {H H' : Heap} {C C' : Col} (h : Ev S H C H' C') {b : Nat} (hb : H.size ≤ b) (l : Lab) : Ev S H C H' (setC C' b l) :=
  ⟨h.size, fun x hx => by rw [setC_ne (by omega)]; exact h.col x hx, h.keep⟩
theorem Ev.upd {S : Lab → Prop} {H H' : Heap} {C C' : Col} (h : Ev S H C H' C') {b : Nat} (hb : b < H.size → S (C b)) (o : Obj) : Ev S H C (upd H' b o) C' :=
  ⟨by rw [size_upd]; exact h.size, h.col, fun x hx hn => by
    have hne : b ≠ x := fun e => hn (by subst e; exact hb hx)
    rw [get_upd_ne _ hne]; exact h.keep x hx hn⟩
theorem Ev.get {S : Lab → Prop} {H H' : Heap} {C C' : Col} (h : Ev S H C H' C') {b : Nat} {o : Obj} (hb : H[b]? = some o) (hS : ¬ S (C b)) : H'[b]? = some o :=
  (h.keep b (lt_of_get hb) hS).trans hb
theorem Ev.colOf {S : Lab → Prop} {H H' : Heap} {C C' : Col} (h : Ev S H C H' C') {b : Nat} {o : Obj} (hb : H[b]? = some o) : C' b = C b := h.col b (lt_of_get hb)

/-! ## Slices as lists of cells -/
/-- Read alone: the block has the owner 0. -/
def SlI (H : Heap) (C : Col) (sz : Nat) (a : Option Addr) (l c : Nat) (cells : List Value) : Prop :=
  cells.length = l * sz ∧ l ≤ c ∧ (l = 0 ∨ ∃ b off cs t fz, a = some ⟨b, off, none⟩ ∧ (C b).1 = 0 ∧ H[b]? = some (.cells ⟨cs⟩ t fz) ∧ off + l * sz ≤ cs.length ∧ (cs.drop off).take (l * sz) = cells)
/-- Owned: no other slice ends behind it in the same row. -/
def SlO (H : Heap) (C : Col) (lab : Lab) (t : TypeId) (sz : Nat) (a : Option Addr) (l c : Nat) (cells : List Value) : Prop :=
  cells.length = l * sz ∧ l ≤ c ∧ ((a = none ∧ l = 0 ∧ c = 0) ∨ ∃ b cs, a = some ⟨b, 0, none⟩ ∧ C b = lab ∧ H[b]? = some (.cells ⟨cs⟩ t (0, 0)) ∧ cs.length = c * sz ∧ cs.take (l * sz) = cells)

theorem rowO_mk {H : Heap} {b off n : Nat} {l : List Value} {t : TypeId} {fz : Nat × Nat} (h : H[b]? = some (.cells ⟨l⟩ t fz)) (hn : off + n ≤ l.length) :
    rowO H ⟨b, off, none⟩ 0 n = some ((l.drop off).take n) := by
  have h1 := rowV_mk H b off n h hn
  unfold rowV at h1
  cases hr : rowO H ⟨b, off, none⟩ 0 n with
  | none => rw [hr] at h1; cases h1
  | some vs =>
    rw [hr] at h1
    simp only [Option.map_some, Option.some.injEq, Value.agg.injEq, Array.mk.injEq] at h1
    rw [h1]

theorem SlI.src {H : Heap} {C : Col} {sz : Nat} {a : Option Addr} {l c : Nat} {cells : List Value} (h : SlI H C sz a l c cells) : SrcH H sz (.slice a l c) l cells := by
  obtain ⟨h1, h2, h3⟩ := h
  unfold SrcH
  rcases h3 with rfl | ⟨b, off, cs, t, fz, rfl, hc, hb, hle, hcs⟩
  · have : cells = [] := List.eq_nil_of_length_eq_zero (by simpa using h1)
    subst this
    cases a with
    | none => exact ⟨rfl, rfl⟩
    | some a => exact ⟨rfl, by rw [Nat.zero_mul]; rfl⟩
  · exact ⟨rfl, by rw [rowO_mk hb hle, hcs]⟩
theorem SlO.src {H : Heap} {C : Col} {lab : Lab} {t : TypeId} {sz : Nat} {a : Option Addr} {l c : Nat} {cells : List Value} (h : SlO H C lab t sz a l c cells) : SrcH H sz (.slice a l c) l cells := by
  obtain ⟨h1, h2, h3⟩ := h
  unfold SrcH
  rcases h3 with ⟨rfl, rfl, rfl⟩ | ⟨b, cs, rfl, hc, hb, hle, hcs⟩
  · exact ⟨rfl, List.eq_nil_of_length_eq_zero (by simpa using h1)⟩
  · refine ⟨rfl, ?_⟩
    rw [rowO_mk hb (by rw [Nat.zero_add, hle]; exact Nat.mul_le_mul_right _ h2), List.drop_zero, hcs]
theorem SlI.ev {S : Lab → Prop} {H H' : Heap} {C C' : Col} {sz : Nat} {a : Option Addr} {l c : Nat} {cells : List Value} (h : SlI H C sz a l c cells) (he : Ev S H C H' C') (hS : ∀ x, x.1 = 0 → ¬ S x) : SlI H' C' sz a l c cells := by
  obtain ⟨h1, h2, h3⟩ := h
  refine ⟨h1, h2, h3.imp id ?_⟩
  rintro ⟨b, off, cs, t, fz, e, hc, hb, hle, hcs⟩
  exact ⟨b, off, cs, t, fz, e, by rw [he.colOf hb]; exact hc, he.get hb (hS _ hc), hle, hcs⟩
theorem SlO.ev {S : Lab → Prop} {H H' : Heap} {C C' : Col} {lab : Lab} {t : TypeId} {sz : Nat} {a : Option Addr} {l c : Nat} {cells : List Value} (h : SlO H C lab t sz a l c cells) (he : Ev S H C H' C') (hS : ¬ S lab) : SlO H' C' lab t sz a l c cells := by
  obtain ⟨h1, h2, h3⟩ := h
  refine ⟨h1, h2, h3.imp id ?_⟩
  rintro ⟨b, cs, e, hc, hb, hle, hcs⟩
  exact ⟨b, cs, e, by rw [he.colOf hb]; exact hc, he.get hb (by rw [hc]; exact hS), hle, hcs⟩
theorem SlO.imm {H : Heap} {C : Col} {lab : Lab} {t : TypeId} {sz : Nat} {a : Option Addr} {l c : Nat} {cells : List Value} (h : SlO H C lab t sz a l c cells) (h0 : lab.1 = 0) : SlI H C sz a l c cells := by
  obtain ⟨h1, h2, h3⟩ := h
  refine ⟨h1, h2, ?_⟩
  rcases h3 with ⟨rfl, rfl, rfl⟩ | ⟨b, cs, rfl, hc, hb, hle, hcs⟩
  · exact .inl rfl
  · exact .inr ⟨b, 0, cs, t, _, rfl, by rw [hc]; exact h0, hb, by rw [Nat.zero_add, hle]; exact Nat.mul_le_mul_right _ h2, by rw [List.drop_zero]; exact hcs⟩
theorem SlI.nil (H : Heap) (C : Col) (sz : Nat) : SlI H C sz none 0 0 [] := ⟨by simp, Nat.le_refl _, .inl rfl⟩
theorem SlO.nil (H : Heap) (C : Col) (lab : Lab) (t : TypeId) (sz : Nat) : SlO H C lab t sz none 0 0 [] := ⟨by simp, Nat.le_refl _, .inl ⟨rfl, rfl, rfl⟩⟩

section
variable {P : Program}

theorem stN_run {t : TypeId} : ∀ (vs cs : List Value) (off : Nat), off + vs.length ≤ cs.length → (∀ v ∈ vs, v.oneCell = true) →
    stN (some (.cells ⟨cs⟩ t (0, 0))) off vs = some (.cells ⟨cs.take off ++ (vs ++ cs.drop (off + vs.length))⟩ t (0, 0))
  | [], cs, off, _, _ => by simp [stN_nil]
  | v :: vs, cs, off, h, hv => by
    simp only [List.length_cons] at h
    rw [stN_cons, st1_some, if_pos (by omega), if_pos (hv v (List.mem_cons_self ..)), stN_run vs (cs.set off v) (off + 1) (by simp; omega) (fun x hx => hv x (List.mem_cons_of_mem _ hx))]
    simp only [Option.some.injEq, Obj.cells.injEq, Array.mk.injEq, and_true, List.length_cons]
    rw [List.drop_set_of_lt (by omega), show off + 1 + vs.length = off + (vs.length + 1) from by omega, List.take_add_one]
    simp [List.take_set_of_le, show off < cs.length from by omega]

/-- 'append' to a slice that is owned. -/
theorem app_own {T T' e ty : TypeId} {d' : TypeDesc} {i : TypeInfo} {z : Value} {H : Heap} {C : Col} {lab : Lab} {a : Option Addr} {l c n : Nat} {x : Value} {old new : List Value} {K : Value → Heap → Prop}
    (hT : P.underlying T = some (.slice e)) (hT' : P.underlying T' = some d') (hd : (∃ e', d' = .slice e') ∨ d' = .string) (hi : P.info? e = some i) (hz : i.zero = some z) (hzs : z.cells.size = i.size)
    (hx : SrcH H i.size x n new) (hn : new.length = n * i.size) (hone : ∀ v ∈ new, v.oneCell = true) (ho : SlO H C lab e i.size a l c old) (hb : (2 * (l + n) + 768) * i.bytes ≤ 2 ^ 48) (hn2 : l + n < 2 ^ 63)
    (hK : ∀ a' c' H' C', SlO H' C' lab e i.size a' (l + n) c' (old ++ new) → Ev (at1 lab) H C H' C' → (a = none → Ev no H C H' C') → K (.slice a' (l + n) c') H') :
    Sm P (Builtin.append_ #[T, T'] ty ⟨[.slice a l c, x]⟩) H K := by
  refine append_wp hT hT' hd hi hz hx ho.src hb hn2 (fun hle => ?_) (fun hlt nc hnc _ => ?_)
  · obtain ⟨h1, h2, h3⟩ := ho
    rcases h3 with ⟨rfl, rfl, rfl⟩ | ⟨b, cs, rfl, hc, hbk, hlen, hcs⟩
    · have hn0 : n = 0 := by omega
      subst hn0
      have : new = [] := List.eq_nil_of_length_eq_zero (by simpa using hn)
      subst this
      exact hK none 0 H C ⟨by simpa using h1, Nat.le_refl _, .inl ⟨rfl, rfl, rfl⟩⟩ (Ev.refl _ _ _) fun _ => Ev.refl _ _ _
    · dsimp only
      rw [add_mk, Nat.zero_add]
      have hll : l * i.size + new.length ≤ cs.length := by
        rw [hn, hlen, ← Nat.add_mul]; exact Nat.mul_le_mul_right _ hle
      cases hnew : new with
      | nil =>
        show K _ H
        have hn0 : n * i.size = 0 := by rw [← hn, hnew]; rfl
        refine hK _ c H C ⟨?_, hle, .inr ⟨b, cs, rfl, hc, hbk, hlen, ?_⟩⟩ (Ev.refl _ _ _) fun h => (nomatch h)
        · rw [hnew, List.append_nil, h1, Nat.add_mul, hn0]; rfl
        · rw [hnew, List.append_nil, Nat.add_mul, hn0, Nat.add_zero]; exact hcs
      | cons v vs =>
        rw [← hnew]
        have hne : new ≠ [] := by rw [hnew]; simp
        have := (stL_iff (K := K (.slice (some ⟨b, 0, none⟩) (l + n) c)) new (H := H) (b := b) (off := l * i.size) (i := 0) hne (by omega)).2
        refine this ⟨_, by rw [hbk]; exact stN_run new cs _ hll hone, ?_⟩
        refine hK _ c _ C ⟨?_, hle, .inr ⟨b, _, rfl, hc, get_upd_of hbk, ?_, ?_⟩⟩ ((Ev.refl _ _ _).upd (fun _ => hc) _) fun h => (nomatch h)
        · rw [List.length_append, h1, hn, Nat.add_mul]
        · simp only [List.length_append, List.length_take, List.length_drop]
          rw [Nat.min_eq_left (by omega)]
          omega
        · rw [hcs, ← List.append_assoc, List.take_append_of_le_length (by rw [List.length_append, h1, hn, Nat.add_mul]; omega), List.take_of_length_le (by rw [List.length_append, h1, hn, Nat.add_mul]; omega)]
  · have hzl : (Builtin.zeroCells z.cells (nc - (l + n))).toList.length = (nc - (l + n)) * i.size := by
      simp [Builtin.zeroCells, hzs]
    have harr : (⟨old⟩ ++ ⟨new⟩ ++ Builtin.zeroCells z.cells (nc - (l + n)) : Array Value) = ⟨old ++ new ++ (Builtin.zeroCells z.cells (nc - (l + n))).toList⟩ := by
      apply Array.ext'; simp
    rw [harr]
    have hol : old.length = l * i.size := ho.1
    have hev : ∀ S, Ev S H C (H.push (.cells ⟨old ++ new ++ (Builtin.zeroCells z.cells (nc - (l + n))).toList⟩ e)) (setC C H.size lab) := fun S => ((Ev.refl S H C).push _).paint (Nat.le_refl _) _
    refine hK _ nc _ (setC C H.size lab) ⟨by rw [List.length_append, hol, hn, Nat.add_mul], hnc, .inr ⟨H.size, _, rfl, setC_self _ _ _, get_push_self _ _, ?_, ?_⟩⟩ (hev _) fun _ => hev _
    · rw [List.length_append, List.length_append, hol, hn, hzl, ← Nat.add_mul, ← Nat.add_mul]
      congr 1; omega
    · rw [List.take_append_of_le_length (by rw [List.length_append, hol, hn, Nat.add_mul]; omega), List.take_of_length_le (by rw [List.length_append, hol, hn, Nat.add_mul]; omega)]

end
end Go.Fx

namespace Go.Fx
open Go
set_option linter.unusedVariables false

section
variable {P : Program}

def byts (xs : List UInt8) : List Value := xs.map fun b => .int .u8 b.toNat

theorem byts_one {xs : List UInt8} : ∀ v ∈ byts xs, v.oneCell = true := by
  intro v hv
  obtain ⟨b, _, rfl⟩ := List.mem_map.1 hv
  rfl

/-- '[]byte(s)' -/
theorem conv_bytes {T T' e : TypeId} {ds : TypeDesc} (hs : P.underlying T = some .string) (hT : P.underlying T' = some (.slice e)) (he : P.underlying e = some (.int .u8)) {H : Heap} {C : Col} {s : ByteArray} {K : Value → Heap → Prop}
    (hK : ∀ a c H', Ev no H C H' (setC C H.size (0, 0)) → SlI H' (setC C H.size (0, 0)) 1 a s.size c (byts s.data.toList) → K (.slice a s.size c) H') :
    Sm P (convert T T' (.string s)) H K := by
  unfold Sm convert
  simp only [wpH_bind', wpH_und hs, wpH_und hT, wpH_und he]
  unfold Conv.stringToBytes
  simp only [wpH_bind', wpH_choose, wpH_newRow, wpH_pure]
  have hq : (Question.appendCap s.size 0 e).forced = false := rfl
  rw [hq]
  refine ⟨fun h => (nomatch h), fun _ t => ?_⟩
  generalize hcap : (Question.appendCap s.size 0 e).cut t = cap
  have hcap' : s.size ≤ cap := by
    rw [← hcap]
    show s.size ≤ s.size + _
    omega
  generalize hcells : ((s.data.map fun b => Value.int .u8 b.toNat) ++ Array.replicate (cap - s.size) (.int .u8 0)) = cells
  have hlist : cells.toList = byts s.data.toList ++ List.replicate (cap - s.size) (.int .u8 0) := by
    rw [← hcells]; simp [byts]
  have hlen : (byts s.data.toList).length = s.size := by
    unfold byts
    rw [List.length_map]
    exact Array.length_toList
  unfold markStringish
  rw [wpH_bind']
  show wpH P (match shapeH (H.push (.cells cells e)) H.size with | some (_, n) => _ | _ => _) _ _
  have hshape : shapeH (H.push (.cells cells e)) H.size = some (e, cells.size) := by
    unfold shapeH; rw [get_push_self]
  rw [hshape]
  show K _ (freezeH (H.push (.cells cells e)) ⟨H.size, cells.size, none⟩ 1)
  have hfr : freezeH (H.push (.cells cells e)) ⟨H.size, cells.size, none⟩ 1 = H.push (.cells cells e (cells.size, cells.size + 1)) := by
    unfold freezeH
    rw [if_neg (by omega)]
    refine Array.ext_getElem? fun i => ?_
    rw [Array.getElem?_modify]
    by_cases e : H.size = i
    · subst e; simp
    · rw [if_neg e, Array.getElem?_push, Array.getElem?_push]
      simp [Ne.symm e]
  rw [hfr]
  have hcl : cells = ⟨cells.toList⟩ := rfl
  refine hK _ cap _ (((Ev.refl no H C).push _).paint (Nat.le_refl _) _) ⟨by rw [hlen, Nat.mul_one], hcap', .inr ⟨H.size, 0, cells.toList, e, _, rfl, by rw [setC_self], get_push_self _ _, ?_, ?_⟩⟩
  · rw [hlist, List.length_append, hlen]; omega
  · rw [hlist, List.drop_zero, List.take_append_of_le_length (by rw [hlen]; omega), List.take_of_length_le (by rw [hlen]; omega)]

/-- A slice literal of one element. -/
theorem build_one {T e : TypeId} {i : TypeInfo} {z v : Value} (hT : P.underlying T = some (.slice e)) (hi : P.info? e = some i) (hz : i.zero = some z) (hzs : z.cells.size = i.size) (hv : v.cells.size = i.size) (hp : 0 < i.size) (hlt : i.size ≤ 2 ^ 24)
    {H : Heap} {K : Value → Heap → Prop} (hK : K (.slice (some ⟨H.size, 0, none⟩) 1 1) (H.push (.cells v.cells e))) :
    Sm P (Instr.buildSlice T 1 ⟨[(0, v)]⟩) H K := by
  unfold Sm Instr.buildSlice
  simp only [wpH_bind', wpH_und hT, wpH_size hi, Nat.one_mul]
  rw [if_neg (by omega), if_neg (by omega)]
  simp only [wpH_bind', wpH_zero hi hz, wpH_pure]
  have hz2 : ((Array.range i.size).map fun x => z.cells[x % z.cells.size]!) = z.cells := by
    apply Array.ext
    · simp [hzs]
    · intro k h1 h2
      simp only [Array.getElem_map, Array.getElem_range]
      rw [Nat.mod_eq_of_lt h2]
      simp [h2]
  rw [hz2]
  have hl : z.cells.toList.length = i.size := by simpa using hzs
  have hlv : v.cells.toList.length = i.size := by simpa using hv
  have hfill : Instr.fill (fun x => some (x * i.size, i.size)) z.cells [(0, v)] = some v.cells := by
    have h1 : fillL (fun x => some (x * i.size, i.size)) z.cells.toList [(0, v)] = some v.cells.toList := by
      unfold fillL
      simp only [Nat.zero_mul]
      have e1 : Nat.beq v.cells.toList.length i.size = true := by rw [hlv]; exact Nat.beq_refl _
      have e2 : Nat.ble (Nat.add 0 i.size) z.cells.toList.length = true := Nat.ble_eq_true_of_le (by show 0 + i.size ≤ z.cells.toList.length; omega)
      simp only [e1, e2, fillL]
      have e3 : Nat.add 0 i.size = i.size := Nat.zero_add _
      rw [e3, List.drop_of_length_le (by omega)]
      simp
    have := fillL_fill _ _ _ h1
    simpa using this
  have hpl : (⟨[(0, v)]⟩ : Array (Nat × Value)).toList = [(0, v)] := rfl
  simp only [hpl, hfill, wpH_bind', wpH_newRow, wpH_pure]
  exact hK

end
end Go.Fx

namespace Go.Fx
open Go
set_option linter.unusedVariables false

section
variable {P : Program}

/-- What the table of types says of a type: its zero value, its cells, its bytes. -/
def TyF (P : Program) (e : TypeId) (z : Value) (s b : Nat) : Prop := ∃ i, P.info? e = some i ∧ i.zero = some z ∧ i.size = s ∧ i.bytes = b
theorem TyF.of {e : TypeId} {z : Value} {s b : Nat} (h : (P.info? e).map (fun i => (i.zero, i.size, i.bytes)) = some (some z, s, b)) : TyF P e z s b := by
  cases hi : P.info? e with
  | none => rw [hi] at h; cases h
  | some i =>
    rw [hi] at h
    simp only [Option.map_some, Option.some.injEq, Prod.mk.injEq] at h
    exact ⟨i, hi, h.1, h.2.1, h.2.2⟩

theorem app_ownT {T T' e ty : TypeId} {d' : TypeDesc} {z : Value} {s b : Nat} {H : Heap} {C : Col} {lab : Lab} {a : Option Addr} {l c n : Nat} {x : Value} {old new : List Value} {K : Value → Heap → Prop}
    (hT : P.underlying T = some (.slice e)) (hT' : P.underlying T' = some d') (hd : (∃ e', d' = .slice e') ∨ d' = .string) (hi : TyF P e z s b) (hzs : z.cells.size = s)
    (hx : SrcH H s x n new) (hn : new.length = n * s) (hone : ∀ v ∈ new, v.oneCell = true) (ho : SlO H C lab e s a l c old) (hb : (2 * (l + n) + 768) * b ≤ 2 ^ 48) (hn2 : l + n < 2 ^ 63)
    (hK : ∀ a' c' H' C', SlO H' C' lab e s a' (l + n) c' (old ++ new) → Ev (at1 lab) H C H' C' → (a = none → Ev no H C H' C') → K (.slice a' (l + n) c') H') :
    Sm P (Builtin.append_ #[T, T'] ty ⟨[.slice a l c, x]⟩) H K := by
  obtain ⟨i, h1, h2, rfl, rfl⟩ := hi
  exact app_own hT hT' hd h1 h2 hzs hx hn hone ho hb hn2 hK

/-- A copy: 'append([]T(nil), x...)'. -/
theorem app_copy {T T' e ty : TypeId} {d' : TypeDesc} {z : Value} {s b : Nat} {H : Heap} {C : Col} {lab : Lab} {n : Nat} {x : Value} {new : List Value} {K : Value → Heap → Prop}
    (hT : P.underlying T = some (.slice e)) (hT' : P.underlying T' = some d') (hd : (∃ e', d' = .slice e') ∨ d' = .string) (hi : TyF P e z s b) (hzs : z.cells.size = s)
    (hx : SrcH H s x n new) (hn : new.length = n * s) (hone : ∀ v ∈ new, v.oneCell = true) (hb : (2 * n + 768) * b ≤ 2 ^ 48) (hn2 : n < 2 ^ 63)
    (hK : ∀ a' c' H' C', SlO H' C' lab e s a' n c' new → Ev no H C H' C' → K (.slice a' n c') H') :
    Sm P (Builtin.append_ #[T, T'] ty ⟨[.slice none 0 0, x]⟩) H K := by
  refine app_ownT (C := C) (lab := lab) (old := []) hT hT' hd hi hzs hx hn hone (SlO.nil _ _ _ _ _) (by simpa using hb) (by simpa using hn2) fun a' c' H' C' h1 _ h3 => ?_
  rw [Nat.zero_add, List.nil_append] at h1
  rw [Nat.zero_add]
  exact hK a' c' H' C' h1 (h3 rfl)

theorem build_oneT {T e : TypeId} {z v : Value} {s b : Nat} (hT : P.underlying T = some (.slice e)) (hi : TyF P e z s b) (hzs : z.cells.size = s) (hv : v.cells.size = s) (hp : 0 < s) (hlt : s ≤ 2 ^ 24)
    {H : Heap} {K : Value → Heap → Prop} (hK : K (.slice (some ⟨H.size, 0, none⟩) 1 1) (H.push (.cells v.cells e))) :
    Sm P (Instr.buildSlice T 1 ⟨[(0, v)]⟩) H K := by
  obtain ⟨i, h1, h2, rfl, rfl⟩ := hi
  exact build_one hT h1 h2 hzs hv hp hlt hK

theorem SrcH_one {H : Heap} {b s : Nat} {cs : List Value} {t : TypeId} {fz : Nat × Nat} (h : H[b]? = some (.cells ⟨cs⟩ t fz)) (hl : cs.length = s) : SrcH H s (.slice (some ⟨b, 0, none⟩) 1 1) 1 cs := by
  refine ⟨rfl, ?_⟩
  rw [rowO_mk h (by omega), List.drop_zero, List.take_of_length_le (by omega)]

theorem lookup_rdT {κ : Type} [DecidableEq κ] {d : TypeDesc} {inj : κ → Value} (hk : KeyI d inj) {T t e : TypeId} {z : Value} {s b : Nat} (hT : P.underlying T = some (.map t e)) (ht : P.underlying t = some d) (hi : TyF P e z s b)
    {H : Heap} {m : Nat} {o : Obj} {kvs : List (κ × Value)} (hm : H[m]? = some o) (ho : MapIs inj o kvs) (k : κ) (ok : Bool) :
    Rd P (Instr.lookup T (.map (some m)) (inj k) ok) H (if ok then .tuple ⟨[(lk k kvs).getD z, .bool (lk k kvs).isSome]⟩ else (lk k kvs).getD z) := by
  obtain ⟨i, h1, h2, _, _⟩ := hi
  exact lookup_rd hk hT ht h1 h2 hm ho k ok

end
end Go.Fx

namespace Go.Disk
open Go
set_option linter.unusedVariables false

/-! ## The disk, as plain data -/
abbrev Name := ByteArray
def nlt (a b : Name) : Bool := Op.bytesLess a.toList b.toList
theorem bl_irrefl : ∀ x : List UInt8, Op.bytesLess x x = false
  | [] => rfl
  | a :: x => by
    have h : ¬ a < a := by simp
    simp [Op.bytesLess, h, bl_irrefl x]
theorem bl_trans : ∀ {x y z : List UInt8}, Op.bytesLess x y = true → Op.bytesLess y z = true → Op.bytesLess x z = true
  | x, [], z, h, _ => by cases x <;> cases h
  | x, b :: y, [], _, h => by cases h
  | [], b :: y, c :: z, _, _ => rfl
  | a :: x, b :: y, c :: z, h1, h2 => by
    simp only [Op.bytesLess, Bool.or_eq_true, Bool.and_eq_true, decide_eq_true_eq, beq_iff_eq] at h1 h2 ⊢
    rcases h1 with h1 | ⟨rfl, h1⟩
    · rcases h2 with h2 | ⟨rfl, h2⟩
      · exact .inl (UInt8.lt_trans h1 h2)
      · exact .inl h1
    · rcases h2 with h2 | ⟨rfl, h2⟩
      · exact .inl h2
      · exact .inr ⟨rfl, bl_trans h1 h2⟩
theorem bl_total : ∀ (x y : List UInt8), Op.bytesLess x y = true ∨ x = y ∨ Op.bytesLess y x = true
  | [], [] => .inr (.inl rfl)
  | [], b :: y => .inl rfl
  | a :: x, [] => .inr (.inr rfl)
  | a :: x, b :: y => by
    simp only [Op.bytesLess, Bool.or_eq_true, Bool.and_eq_true, decide_eq_true_eq, beq_iff_eq, List.cons.injEq]
    have h3 : a < b ∨ a = b ∨ b < a := by
      rcases Nat.lt_trichotomy a.toNat b.toNat with h | h | h
      · exact .inl (UInt8.lt_iff_toNat_lt.2 h)
      · exact .inr (.inl (UInt8.toNat_inj.1 h))
      · exact .inr (.inr (UInt8.lt_iff_toNat_lt.2 h))
    rcases h3 with h | rfl | h
    · exact .inl (.inl h)
    · rcases bl_total x y with h | rfl | h
      · exact .inl (.inr ⟨rfl, h⟩)
      · exact .inr (.inl ⟨rfl, rfl⟩)
      · exact .inr (.inr (.inr ⟨rfl, h⟩))
    · exact .inr (.inr (.inl h))
theorem nm_eq {a b : Name} (h : a.toList = b.toList) : a = b := by
  rw [ByteArray.toList_eq, ByteArray.toList_eq] at h
  cases a; cases b
  simp only [Array.toList_inj] at h
  rw [h]
theorem nlt_irrefl (a : Name) : nlt a a = false := bl_irrefl _
theorem nlt_trans {a b c : Name} (h1 : nlt a b = true) (h2 : nlt b c = true) : nlt a c = true := bl_trans h1 h2
theorem nlt_total (a b : Name) : nlt a b = true ∨ a = b ∨ nlt b a = true := (bl_total a.toList b.toList).imp id (Or.imp nm_eq id)

structure Chg where
  cut : Bool
  off : Nat
  b : List UInt8
def Chg.app (c : Chg) (xs : List UInt8) : List UInt8 := if c.cut then xs.take c.off else xs.take c.off ++ (c.b ++ xs.drop (c.off + c.b.length))
structure FileA where
  sure : List UInt8
  now : List UInt8
  row : List Chg
abbrev Dir := List (Name × Nat)
def dget (k : Name) : Dir → Option Nat
  | [] => none
  | p :: ps => if p.1 = k then some p.2 else dget k ps
def dput (k : Name) (n : Nat) : Dir → Dir
  | [] => [(k, n)]
  | p :: ps => if p.1 = k then (k, n) :: ps else if nlt k p.1 then (k, n) :: p :: ps else p :: dput k n ps
def ddel (k : Name) : Dir → Dir
  | [] => []
  | p :: ps => if p.1 = k then ps else p :: ddel k ps
/-- kinds: 0 create, 1 rename, 2 remove -/
structure Mv where
  kind : Nat
  src : Name
  dst : Name
  file : Nat
def Mv.app (m : Mv) (d : Dir) : Dir :=
  if m.kind = 0 then dput m.dst m.file d
  else if m.kind = 1 then dput m.dst ((dget m.src d).getD 0) (ddel m.src d)
  else ddel m.src d
structure Disk where
  room : Nat
  files : List FileA
  sure : Dir
  seen : Dir
  row : List Mv
  acts : Nat
  fuse : Nat
  dead : Bool

def flen (fs : List FileA) (n : Nat) : Nat := match fs[n]? with | some f => f.now.length | none => 0
def usedOf (fs : List FileA) (d : Dir) : Nat := (d.map fun p => flen fs p.2).sum
def Disk.used (D : Disk) : Nat := usedOf D.files D.seen
def Disk.blow (D : Disk) : Disk := { D with acts := D.acts + 1, fuse := D.fuse - 1, dead := D.fuse == 1 }
def nmByte (c : UInt8) : Bool := (decide (97 ≤ c.toNat) && decide (c.toNat ≤ 122)) || (decide (48 ≤ c.toNat) && decide (c.toNat ≤ 57)) || decide (c.toNat = 46) || decide (c.toNat = 45)
def isNm (s : Name) : Bool := s.toList.all nmByte && decide (1 ≤ s.size) && decide (s.size ≤ 32)

end Go.Disk

namespace Go.Disk
open Go Go.Fx
set_option linter.unusedVariables false

section
variable {κ : Type} [DecidableEq κ]

theorem lk_mem {k : κ} {v : Value} : ∀ {l : List (κ × Value)}, (l.map (·.1)).Nodup → (lk k l = some v ↔ (k, v) ∈ l)
  | [], _ => by simp [lk]
  | p :: ps, hn => by
    simp only [List.map_cons, List.nodup_cons] at hn
    unfold lk
    by_cases h : p.1 = k
    · rw [if_pos h]
      constructor
      · intro e
        cases e
        rw [← h]; exact List.mem_cons_self ..
      · intro hm
        rcases List.mem_cons.1 hm with rfl | hm
        · rfl
        · exact absurd (List.mem_map.2 ⟨_, hm, rfl⟩) (by rw [← h]; exact hn.1)
    · rw [if_neg h, lk_mem hn.2]
      constructor
      · exact fun hm => List.mem_cons_of_mem _ hm
      · intro hm
        rcases List.mem_cons.1 hm with rfl | hm
        · exact absurd rfl h
        · exact hm

theorem lk_perm {k : κ} {l l' : List (κ × Value)} (hp : l.Perm l') (hn : (l.map (·.1)).Nodup) : lk k l = lk k l' := by
  have hn' : (l'.map (·.1)).Nodup := (hp.map _).nodup_iff.1 hn
  refine Option.ext fun v => ?_
  rw [lk_mem hn, lk_mem hn']
  exact hp.mem_iff

theorem lk_none_iff {k : κ} : ∀ {l : List (κ × Value)}, lk k l = none ↔ k ∉ l.map (·.1)
  | [] => by simp [lk]
  | p :: ps => by
    unfold lk
    by_cases h : p.1 = k
    · rw [if_pos h]; simp [h]
    · rw [if_neg h, lk_none_iff]; simp [Ne.symm h]

theorem ins_new {k : κ} {v : Value} : ∀ {l : List (κ × Value)}, k ∉ l.map (·.1) → ins k v l = l ++ [(k, v)]
  | [], _ => rfl
  | p :: ps, h => by
    simp only [List.map_cons, List.mem_cons, not_or] at h
    have hne : ¬ p.1 = k := fun e => h.1 e.symm
    simp [ins, hne, ins_new h.2]

theorem ins_perm_del {k : κ} {v : Value} : ∀ {l : List (κ × Value)}, (ins k v l).Perm ((k, v) :: del k l)
  | [] => List.Perm.refl _
  | p :: ps => by
    unfold ins del
    by_cases h : p.1 = k
    · rw [if_pos h, if_pos h]
    · rw [if_neg h, if_neg h]
      exact ((ins_perm_del (l := ps)).cons p).trans (List.Perm.swap _ _ _)

theorem del_perm {k : κ} : ∀ {l l' : List (κ × Value)}, l.Perm l' → (l.map (·.1)).Nodup → (del k l).Perm (del k l') := by
  intro l l' hp hn
  have key : ∀ (l : List (κ × Value)), (l.map (·.1)).Nodup → del k l = l.filter fun p => decide (p.1 ≠ k) := by
    intro l
    induction l with
    | nil => intro _; rfl
    | cons p ps ih =>
      intro hn
      simp only [List.map_cons, List.nodup_cons] at hn
      unfold del
      by_cases h : p.1 = k
      · rw [if_pos h, List.filter_cons_of_neg (by simp [h])]
        refine (List.filter_eq_self.2 fun a ha => ?_).symm
        refine decide_eq_true fun e => hn.1 ?_
        rw [h, ← e]
        exact List.mem_map.2 ⟨a, ha, rfl⟩
      · rw [if_neg h, List.filter_cons_of_pos (by simp [h]), ih hn.2]
  rw [key l hn, key l' ((hp.map _).nodup_iff.1 hn)]
  exact hp.filter _

theorem ins_perm {k : κ} {v : Value} {l l' : List (κ × Value)} (hp : l.Perm l') (hn : (l.map (·.1)).Nodup) : (ins k v l).Perm (ins k v l') :=
  ins_perm_del.trans (((del_perm hp hn).cons _).trans ins_perm_del.symm)
end

/-! ## Directories -/
def dirK (d : Dir) : List (Name × Value) := d.map fun p => (p.1, .int .i64 ((p.2 : Int) + 1))
theorem dirK_keys (d : Dir) : (dirK d).map (·.1) = d.map (·.1) := by simp [dirK]
theorem lk_dirK (k : Name) : ∀ (d : Dir), lk k (dirK d) = (dget k d).map fun n => .int .i64 ((n : Int) + 1)
  | [] => rfl
  | p :: ps => by
    unfold dget
    show (if p.1 = k then some _ else lk k (dirK ps)) = _
    by_cases h : p.1 = k
    · rw [if_pos h, if_pos h]; rfl
    · rw [if_neg h, if_neg h]; exact lk_dirK k ps
theorem del_dirK (k : Name) : ∀ (d : Dir), del k (dirK d) = dirK (ddel k d)
  | [] => rfl
  | p :: ps => by
    unfold ddel
    show (if p.1 = k then dirK ps else _ :: del k (dirK ps)) = _
    by_cases h : p.1 = k
    · rw [if_pos h, if_pos h]
    · rw [if_neg h, if_neg h, del_dirK k ps]; rfl
/-- Names rise. -/
def DSort (d : Dir) : Prop := (d.map (·.1)).Pairwise fun a b => nlt a b = true

theorem DSort.nodup {d : Dir} (h : DSort d) : (d.map (·.1)).Nodup :=
  h.imp fun {a b} hab e => by subst e; rw [nlt_irrefl] at hab; cases hab
theorem DSort.tail {p : Name × Nat} {d : Dir} (h : DSort (p :: d)) : DSort d := (List.pairwise_cons.1 h).2
theorem dget_mem {k : Name} : ∀ {d : Dir} {n : Nat}, dget k d = some n → (k, n) ∈ d
  | p :: ps, n, h => by
    unfold dget at h
    split at h
    · rename_i e
      cases h
      rw [← e]; exact List.mem_cons_self ..
    · exact List.mem_cons_of_mem _ (dget_mem h)
theorem dget_none {k : Name} : ∀ {d : Dir}, dget k d = none ↔ k ∉ d.map (·.1)
  | [] => by simp [dget]
  | p :: ps => by
    unfold dget
    by_cases h : p.1 = k
    · rw [if_pos h]; simp [h]
    · rw [if_neg h, dget_none]; simp [Ne.symm h]
theorem ddel_not {k : Name} : ∀ {d : Dir}, k ∉ d.map (·.1) → ddel k d = d
  | [], _ => rfl
  | q :: qs, h => by
    simp only [List.map_cons, List.mem_cons, not_or] at h
    unfold ddel
    rw [if_neg (fun e => h.1 e.symm), ddel_not h.2]
theorem ddel_sub (k : Name) : ∀ (d : Dir), (ddel k d).Sublist d
  | [] => List.Sublist.refl _
  | p :: ps => by
    unfold ddel
    split
    · exact List.sublist_cons_self _ _
    · exact (ddel_sub k ps).cons_cons _
theorem ddel_notin {k : Name} : ∀ {d : Dir}, (d.map (·.1)).Nodup → k ∉ (ddel k d).map (·.1)
  | [], _ => by simp [ddel]
  | p :: ps, h => by
    simp only [List.map_cons, List.nodup_cons] at h
    unfold ddel
    by_cases e : p.1 = k
    · rw [if_pos e, ← e]; exact h.1
    · rw [if_neg e]
      simp only [List.map_cons, List.mem_cons, not_or]
      exact ⟨fun x => e x.symm, ddel_notin h.2⟩
theorem DSort.ddel {d : Dir} (h : DSort d) (k : Name) : DSort (ddel k d) := List.Pairwise.sublist ((ddel_sub k d).map _) h
theorem dput_keys {k x : Name} {n : Nat} : ∀ {d : Dir}, x ∈ (dput k n d).map (·.1) → x = k ∨ x ∈ d.map (·.1)
  | [], h => by simp [dput] at h; exact .inl h
  | p :: ps, h => by
    unfold dput at h
    split at h
    · rename_i e
      rcases List.mem_cons.1 h with h | h
      · exact .inl h
      · exact .inr (List.mem_cons_of_mem _ h)
    · split at h
      · rcases List.mem_cons.1 h with h | h
        · exact .inl h
        · exact .inr h
      · rcases List.mem_cons.1 h with h | h
        · exact .inr (by rw [h]; exact List.mem_cons_self ..)
        · exact (dput_keys h).imp id fun h => List.mem_cons_of_mem _ h
theorem DSort.dput {d : Dir} (h : DSort d) (k : Name) (n : Nat) : DSort (dput k n d) := by
  induction d with
  | nil => simp [DSort, Disk.dput]
  | cons p ps ih =>
    have hc := List.pairwise_cons.1 h
    unfold Disk.dput
    split
    · rename_i e
      refine List.pairwise_cons.2 ⟨?_, hc.2⟩
      intro b hb
      have h1 : nlt p.1 b = true := hc.1 b hb
      rw [e] at h1
      exact h1
    · rename_i hne
      split
      · rename_i hlt
        refine List.pairwise_cons.2 ⟨?_, h⟩
        intro b hb
        rcases List.mem_cons.1 hb with rfl | hb
        · exact hlt
        · exact nlt_trans hlt (hc.1 b hb)
      · rename_i hnlt
        refine List.pairwise_cons.2 ⟨?_, ih hc.2⟩
        intro b hb
        rcases dput_keys hb with rfl | hb
        · rcases nlt_total p.1 b with h1 | h1 | h1
          · exact h1
          · exact absurd h1 hne
          · exact absurd h1 hnlt
        · exact hc.1 b hb
theorem dput_perm {d : Dir} (h : DSort d) (k : Name) (n : Nat) : (Disk.dput k n d).Perm ((k, n) :: Disk.ddel k d) := by
  induction d with
  | nil => exact List.Perm.refl _
  | cons p ps ih =>
    have hc := List.pairwise_cons.1 h
    unfold Disk.dput Disk.ddel
    by_cases e : p.1 = k
    · rw [if_pos e, if_pos e]
    · rw [if_neg e, if_neg e]
      split
      · rename_i hlt
        have hnot : k ∉ ps.map (·.1) := by
          intro hm
          have := nlt_trans (hc.1 k hm) hlt
          rw [nlt_irrefl] at this
          cases this
        rw [ddel_not hnot]
      · exact ((ih hc.2).cons p).trans (List.Perm.swap _ _ _)
theorem dget_dput {d : Dir} (h : DSort d) (k : Name) (n : Nat) (x : Name) : dget x (Disk.dput k n d) = if x = k then some n else dget x d := by
  induction d with
  | nil =>
    by_cases e : x = k
    · subst e; simp [Disk.dput, dget]
    · simp [Disk.dput, dget, e, Ne.symm e]
  | cons p ps ih =>
    have hc := List.pairwise_cons.1 h
    unfold Disk.dput
    by_cases e : p.1 = k
    · rw [if_pos e]
      by_cases e2 : x = k
      · subst e2; simp [dget]
      · have : ¬ p.1 = x := fun h => e2 (h.symm.trans e)
        simp [dget, e2, Ne.symm e2, this]
    · rw [if_neg e]
      split
      · by_cases e2 : x = k
        · subst e2; simp [dget]
        · simp [dget, e2, Ne.symm e2]
      · unfold dget
        rw [ih hc.2]
        by_cases e2 : x = k
        · subst e2; simp [e]
        · simp [e2]
theorem dget_ddel {d : Dir} (h : (d.map (·.1)).Nodup) (k x : Name) : dget x (Disk.ddel k d) = if x = k then none else dget x d := by
  induction d with
  | nil => simp [Disk.ddel, dget]
  | cons p ps ih =>
    simp only [List.map_cons, List.nodup_cons] at h
    unfold Disk.ddel
    by_cases e : p.1 = k
    · rw [if_pos e]
      by_cases e2 : x = k
      · subst e2
        rw [if_pos rfl]
        exact dget_none.2 (by rw [← e]; exact h.1)
      · have : ¬ p.1 = x := fun h => e2 (h.symm.trans e)
        simp [dget, e2, this]
    · rw [if_neg e]
      unfold dget
      rw [ih h.2]
      by_cases e2 : x = k
      · subst e2; simp [e]
      · simp [e2]

/-- A block is a map that has just a directory's names. -/
def DirMap (o : Obj) (d : Dir) : Prop := ∃ kvs, MapIs Value.string o kvs ∧ kvs.Perm (dirK d)

theorem MapIs.nodup {κ : Type} {inj : κ → Value} {o : Obj} {kvs : List (κ × Value)} (h : MapIs inj o kvs) : (kvs.map (·.1)).Nodup := by
  obtain ⟨es, clk, rfl, hE⟩ := h
  exact hE.nodup

theorem DirMap.put {d : Dir} (hs : DSort d) {kvs : List (Name × Value)} (hn : (kvs.map (·.1)).Nodup) (hp : kvs.Perm (dirK d)) {o' : Obj} (k : Name) (n : Nat) (h : MapIs Value.string o' (ins k (.int .i64 ((n : Int) + 1)) kvs)) : DirMap o' (Disk.dput k n d) := by
  refine ⟨_, h, (ins_perm hp hn).trans ?_⟩
  refine ins_perm_del.trans ?_
  rw [del_dirK]
  exact ((dput_perm hs k n).map fun p => (p.1, Value.int .i64 ((p.2 : Int) + 1))).symm
theorem DirMap.del {d : Dir} {kvs : List (Name × Value)} (hn : (kvs.map (·.1)).Nodup) (hp : kvs.Perm (dirK d)) {o' : Obj} (k : Name) (h : MapIs Value.string o' (del k kvs)) : DirMap o' (Disk.ddel k d) := by
  refine ⟨_, h, ?_⟩
  rw [← del_dirK]
  exact del_perm hp hn

end Go.Disk

namespace Go.Disk
open Go Go.Fx
set_option linter.unusedVariables false

/-! ## The disk in the heap -/
abbrev SlV := Option Addr × Nat × Nat
structure FsR where
  is : Bool
  room : Int
  used : Int
  files : Option Nat
  next : Int
  sure : Option Nat
  seen : Option Nat
  row : SlV
  acts : Int
  fuse : Int
  dead : Bool
@[go_sem] def fsO (r : FsR) : Obj := .cells ⟨[.bool r.is, .int .i64 r.room, .int .i64 r.used, .map r.files, .int .i64 r.next, .map r.sure, .map r.seen, .slice r.row.1 r.row.2.1 r.row.2.2, .int .i64 r.acts, .int .i64 r.fuse, .bool r.dead]⟩ 73 (0, 0)
@[go_sem] def fileO (s n r : SlV) : Obj := .cells ⟨[.slice s.1 s.2.1 s.2.2, .slice n.1 n.2.1 n.2.2, .slice r.1 r.2.1 r.2.2]⟩ 82 (0, 0)

def ByI (H : Heap) (C : Col) (s : SlV) (xs : List UInt8) : Prop := SlI H C 1 s.1 s.2.1 s.2.2 (byts xs)
def ChgsAt (H : Heap) (C : Col) : List Chg → List Value → Prop
  | [], vs => vs = []
  | c :: cs, vs => ∃ (s : SlV) (r : List Value), vs = .bool c.cut :: .int .i64 (c.off : Int) :: .slice s.1 s.2.1 s.2.2 :: r ∧ ByI H C s c.b ∧ ChgsAt H C cs r
def FileAt (H : Heap) (C : Col) (k i fb : Nat) (f : FileA) : Prop :=
  C fb = (k, 6 + 2 * i) ∧ ∃ (s n r : SlV) (cells : List Value), H[fb]? = some (fileO s n r) ∧ ByI H C s f.sure ∧ ByI H C n f.now ∧ SlO H C (k, 7 + 2 * i) 90 3 r.1 r.2.1 r.2.2 cells ∧ ChgsAt H C f.row cells ∧ r.2.1 = f.row.length
def filK : Nat → List Nat → List (Int × Value)
  | _, [] => []
  | i, b :: bs => (((i : Nat) : Int) + 1, .pointer (some ⟨b, 0, none⟩)) :: filK (i + 1) bs
def FilesAt (H : Heap) (C : Col) (k mf : Nat) (fbs : List Nat) (fs : List FileA) : Prop :=
  C mf = (k, 1) ∧ (∃ o kvs, H[mf]? = some o ∧ MapIs (Value.int .i64) o kvs ∧ kvs.Perm (filK 0 fbs)) ∧ fbs.length = fs.length ∧ ∀ i fb f, fbs[i]? = some fb → fs[i]? = some f → FileAt H C k i fb f
def DirAt (H : Heap) (C : Col) (lab : Lab) (m : Nat) (d : Dir) : Prop := C m = lab ∧ ∃ o, H[m]? = some o ∧ DirMap o d
def mvCells (m : Mv) : List Value := [.int .i64 (m.kind : Int), .string m.src, .string m.dst, .int .i64 (if m.kind = 0 then (m.file : Int) + 1 else 0)]
def mvsCells (ms : List Mv) : List Value := ms.flatMap mvCells
def RowAt (H : Heap) (C : Col) (k : Nat) (s : SlV) (ms : List Mv) : Prop := SlO H C (k, 5) 85 4 s.1 s.2.1 s.2.2 (mvsCells ms) ∧ s.2.1 = ms.length

structure FsX where
  p : Nat
  mf : Nat
  ms : Nat
  mv : Nat
  row : SlV
  fbs : List Nat
def FsX.r (x : FsX) (D : Disk) (u : Nat) : FsR := ⟨true, D.room, u, some x.mf, D.files.length, some x.ms, some x.mv, x.row, D.acts, D.fuse, D.dead⟩
theorem fsX (x : FsX) (D : Disk) (u : Nat) : fsO (x.r D u) = .cells ⟨[.bool true, .int .i64 (D.room : Int), .int .i64 (u : Int), .map (some x.mf), .int .i64 (D.files.length : Int), .map (some x.ms), .map (some x.mv), .slice x.row.1 x.row.2.1 x.row.2.2, .int .i64 (D.acts : Int), .int .i64 (D.fuse : Int), .bool D.dead]⟩ 73 (0, 0) := rfl
structure FsAt (H : Heap) (C : Col) (k : Nat) (x : FsX) (D : Disk) (u : Nat) : Prop where
  cp : C x.p = (k, 0)
  hp : H[x.p]? = some (fsO (x.r D u))
  files : FilesAt H C k x.mf x.fbs D.files
  sure : DirAt H C (k, 2) x.ms D.sure
  seen : DirAt H C (k, 3) x.mv D.seen
  row : RowAt H C k x.row D.row
def IsFS (H : Heap) (C : Col) (k p : Nat) (D : Disk) : Prop := ∃ x, x.p = p ∧ FsAt H C k x D D.used

section
variable {S : Lab → Prop} {H H' : Heap} {C C' : Col} {k : Nat}
theorem ByI.ev {s : SlV} {xs : List UInt8} (h : ByI H C s xs) (he : Ev S H C H' C') (hS : ∀ x, x.1 = 0 → ¬ S x) : ByI H' C' s xs := SlI.ev h he hS
theorem ChgsAt.ev (he : Ev S H C H' C') (hS : ∀ x, x.1 = 0 → ¬ S x) : ∀ {cs : List Chg} {vs : List Value}, ChgsAt H C cs vs → ChgsAt H' C' cs vs
  | [], _, h => h
  | c :: cs, vs, ⟨s, r, h1, h2, h3⟩ => ⟨s, r, h1, h2.ev he hS, ChgsAt.ev he hS h3⟩
theorem FileAt.ev {i fb : Nat} {f : FileA} (h : FileAt H C k i fb f) (he : Ev S H C H' C') (hS : ∀ x, x.1 = 0 → ¬ S x) (h1 : ¬ S (k, 6 + 2 * i)) (h2 : ¬ S (k, 7 + 2 * i)) : FileAt H' C' k i fb f := by
  obtain ⟨a, s, n, r, cells, b, c, d, e, g, l⟩ := h
  exact ⟨(he.colOf b).trans a, s, n, r, cells, he.get b (by rw [a]; exact h1), c.ev he hS, d.ev he hS, e.ev he h2, g.ev he hS, l⟩
theorem FilesAt.ev {mf : Nat} {fbs : List Nat} {fs : List FileA} (h : FilesAt H C k mf fbs fs) (he : Ev S H C H' C') (hS : ∀ x, x.1 = 0 → ¬ S x) (h1 : ¬ S (k, 1)) (h2 : ∀ j, 6 ≤ j → ¬ S (k, j)) : FilesAt H' C' k mf fbs fs := by
  obtain ⟨a, ⟨o, kvs, b, c, d⟩, e, g⟩ := h
  exact ⟨(he.colOf b).trans a, ⟨o, kvs, he.get b (by rw [a]; exact h1), c, d⟩, e, fun i fb f q1 q2 => (g i fb f q1 q2).ev he hS (h2 _ (by omega)) (h2 _ (by omega))⟩
theorem DirAt.ev {lab : Lab} {m : Nat} {d : Dir} (h : DirAt H C lab m d) (he : Ev S H C H' C') (hS : ¬ S lab) : DirAt H' C' lab m d := by
  obtain ⟨a, o, b, c⟩ := h
  exact ⟨(he.colOf b).trans a, o, he.get b (by rw [a]; exact hS), c⟩
theorem RowAt.ev {s : SlV} {ms : List Mv} (h : RowAt H C k s ms) (he : Ev S H C H' C') (hS : ¬ S (k, 5)) : RowAt H' C' k s ms := ⟨h.1.ev he hS, h.2⟩
theorem FsAt.ev {x : FsX} {D : Disk} {u : Nat} (h : FsAt H C k x D u) (he : Ev S H C H' C') (h0 : ∀ x, x.1 = 0 → ¬ S x) (hk : ∀ j, j ≠ 4 → ¬ S (k, j)) : FsAt H' C' k x D u :=
  ⟨(he.colOf h.hp).trans h.cp, he.get h.hp (by rw [h.cp]; exact hk _ (by omega)), h.files.ev he h0 (hk _ (by omega)) fun _ _ => hk _ (by omega), h.sure.ev he (hk _ (by omega)), h.seen.ev he (hk _ (by omega)), h.row.ev he (hk _ (by omega))⟩
theorem IsFS.ev {p : Nat} {D : Disk} (h : IsFS H C k p D) (he : Ev S H C H' C') (h0 : ∀ x, x.1 = 0 → ¬ S x) (hk : ∀ j, j ≠ 4 → ¬ S (k, j)) : IsFS H' C' k p D := by
  obtain ⟨x, e, h⟩ := h
  exact ⟨x, e, h.ev he h0 hk⟩

/-- The disk's own block alone changes. -/
theorem FsAt.setP {x : FsX} {D D' : Disk} {u u' : Nat} (hk : k ≠ 0) (h : FsAt H C k x D u) (hf : D'.files = D.files) (hs : D'.sure = D.sure) (hn : D'.seen = D.seen) (hr : D'.row = D.row) :
    FsAt (upd H x.p (fsO (x.r D' u'))) C k x D' u' ∧ Ev (at1 (k, 0)) H C (upd H x.p (fsO (x.r D' u'))) C := by
  have he : Ev (at1 (k, 0)) H C (upd H x.p (fsO (x.r D' u'))) C := Ev.upd (Ev.refl (at1 (k, 0)) H C) (fun _ => show at1 (k, 0) (C x.p) from h.cp) _
  have h0 : ∀ x : Lab, x.1 = 0 → ¬ at1 (k, 0) x := fun y hy e => hk (by unfold at1 at e; rw [e] at hy; exact hy)
  have hn' : ∀ j, j ≠ 0 → ¬ at1 (k, 0) (k, j) := fun j hj e => hj (by unfold at1 at e; exact (Prod.mk.inj e).2)
  exact ⟨⟨h.cp, get_upd_of h.hp, by rw [hf]; exact h.files.ev he h0 (hn' _ (by omega)) fun j hj => hn' _ (by omega), by rw [hs]; exact h.sure.ev he (hn' _ (by omega)), by rw [hn]; exact h.seen.ev he (hn' _ (by omega)), by rw [hr]; exact h.row.ev he (hn' _ (by omega))⟩, he⟩

theorem filK_mem : ∀ {fbs : List Nat} {i : Nat} {a : Int} {v : Value}, (a, v) ∈ filK i fbs ↔ ∃ j fb, fbs[j]? = some fb ∧ a = ((i + j : Nat) : Int) + 1 ∧ v = .pointer (some ⟨fb, 0, none⟩)
  | [], i, a, v => by simp [filK]
  | b :: bs, i, a, v => by
    unfold filK
    rw [List.mem_cons, filK_mem]
    constructor
    · rintro (h | ⟨j, fb, h1, h2, h3⟩)
      · cases h
        exact ⟨0, b, rfl, by simp, rfl⟩
      · exact ⟨j + 1, fb, by simpa using h1, by rw [h2]; congr 2; omega, h3⟩
    · rintro ⟨j, fb, h1, h2, h3⟩
      cases j with
      | zero =>
        simp only [List.getElem?_cons_zero, Option.some.injEq] at h1
        subst h1
        exact .inl (by rw [h2, h3]; simp)
      | succ j => exact .inr ⟨j, fb, by simpa using h1, by rw [h2]; congr 2; omega, h3⟩
theorem filK_keys : ∀ (fbs : List Nat) (i : Nat), ∀ a ∈ (filK i fbs).map (·.1), ((i : Nat) : Int) < a ∧ a ≤ ((i + fbs.length : Nat) : Int)
  | [], i, a, h => by simp [filK] at h
  | b :: bs, i, a, h => by
    unfold filK at h
    simp only [List.map_cons, List.mem_cons] at h
    simp only [List.length_cons]
    rcases h with rfl | h
    · omega
    · have := filK_keys bs (i + 1) a h; omega
theorem filK_append : ∀ (fbs : List Nat) (i b : Nat), filK i (fbs ++ [b]) = filK i fbs ++ [(((i + fbs.length : Nat) : Int) + 1, .pointer (some ⟨b, 0, none⟩))]
  | [], i, b => rfl
  | a :: as, i, b => by
    simp only [List.cons_append, filK]
    rw [filK_append as (i + 1) b]
    congr 4
    simp; omega

/-- What the map of files has of a number. -/
theorem files_lk {fbs : List Nat} {o : Obj} {kvs : List (Int × Value)} (ho : MapIs (Value.int .i64) o kvs) (hp : kvs.Perm (filK 0 fbs)) {n fb : Nat} (hn : fbs[n]? = some fb) : lk ((n : Int) + 1) kvs = some (.pointer (some ⟨fb, 0, none⟩)) :=
  (lk_mem (MapIs.nodup ho)).2 (hp.mem_iff.2 (filK_mem.2 ⟨n, fb, hn, by simp, rfl⟩))

end
end Go.Disk

namespace Go.Disk
open Go Go.Fx
set_option linter.unusedVariables false

/-! ## What always holds of a disk -/
def ChOk (c : Chg) (xs : List UInt8) : Prop := c.off ≤ xs.length ∧ c.b.length ≤ 2 ^ 20
def FPath : List UInt8 → List Chg → List UInt8 → Prop
  | xs, [], ys => ys = xs ∧ xs.length ≤ 2 ^ 20
  | xs, c :: cs, ys => xs.length ≤ 2 ^ 20 ∧ ChOk c xs ∧ FPath (c.app xs) cs ys
def DirOk (n : Nat) (d : Dir) : Prop := DSort d ∧ d.length ≤ 64 ∧ ∀ p ∈ d, p.2 < n
def MvOk (n : Nat) (m : Mv) (d : Dir) : Prop := m.kind ≤ 2 ∧ (m.kind = 0 → m.file < n ∧ dget m.dst d = none) ∧ (m.kind ≠ 0 → dget m.src d ≠ none)
def DPath (n : Nat) : Dir → List Mv → Dir → Prop
  | d, [], e => e = d ∧ DirOk n d
  | d, m :: ms, e => DirOk n d ∧ MvOk n m d ∧ DPath n (m.app d) ms e
structure DiskOk (D : Disk) : Prop where
  room : D.room ≤ 2 ^ 20
  files : ∀ f ∈ D.files, FPath f.sure f.row f.now ∧ f.row.length ≤ D.acts + 64
  nfiles : D.files.length ≤ D.acts + 64
  row : D.row.length ≤ D.acts + 64
  path : DPath D.files.length D.sure D.row D.seen
  fuse : D.fuse < 2 ^ 63

theorem FPath.len0 {xs ys : List UInt8} {cs : List Chg} (h : FPath xs cs ys) : xs.length ≤ 2 ^ 20 := by
  cases cs with
  | nil => exact h.2
  | cons c cs => exact h.1
theorem FPath.len1 : ∀ {cs : List Chg} {xs ys : List UInt8}, FPath xs cs ys → ys.length ≤ 2 ^ 20
  | [], xs, ys, h => by rw [h.1]; exact h.2
  | c :: cs, xs, ys, h => h.2.2.len1
theorem FPath.snoc {c : Chg} : ∀ {cs : List Chg} {xs ys : List UInt8}, FPath xs cs ys → ChOk c ys → (c.app ys).length ≤ 2 ^ 20 → FPath xs (cs ++ [c]) (c.app ys)
  | [], xs, ys, h, hc, hl => by
    obtain ⟨rfl, h2⟩ := h
    exact ⟨h2, hc, rfl, hl⟩
  | d :: cs, xs, ys, h, hc, hl => ⟨h.1, h.2.1, h.2.2.snoc hc hl⟩
theorem DPath.ok0 {n : Nat} {d e : Dir} {ms : List Mv} (h : DPath n d ms e) : DirOk n d := by
  cases ms with
  | nil => exact h.2
  | cons m ms => exact h.1
theorem DPath.ok1 {n : Nat} : ∀ {ms : List Mv} {d e : Dir}, DPath n d ms e → DirOk n e
  | [], d, e, h => by rw [h.1]; exact h.2
  | m :: ms, d, e, h => h.2.2.ok1
theorem DPath.snoc {n : Nat} {m : Mv} : ∀ {ms : List Mv} {d e : Dir}, DPath n d ms e → MvOk n m e → DirOk n (m.app e) → DPath n d (ms ++ [m]) (m.app e)
  | [], d, e, h, hm, ho => by
    obtain ⟨rfl, h2⟩ := h
    exact ⟨h2, hm, rfl, ho⟩
  | q :: ms, d, e, h, hm, ho => ⟨h.1, h.2.1, h.2.2.snoc hm ho⟩
theorem DirOk.mono {n n' : Nat} (hn : n ≤ n') {d : Dir} (h : DirOk n d) : DirOk n' d := ⟨h.1, h.2.1, fun p hp => Nat.lt_of_lt_of_le (h.2.2 p hp) hn⟩
theorem DPath.mono {n n' : Nat} (hn : n ≤ n') : ∀ {ms : List Mv} {d e : Dir}, DPath n d ms e → DPath n' d ms e
  | [], d, e, h => ⟨h.1, h.2.mono hn⟩
  | m :: ms, d, e, h => ⟨h.1.mono hn, ⟨h.2.1.1, fun hk => ⟨Nat.lt_of_lt_of_le (h.2.1.2.1 hk).1 hn, (h.2.1.2.1 hk).2⟩, h.2.1.2.2⟩, h.2.2.mono hn⟩
theorem DiskOk.seen {D : Disk} (h : DiskOk D) : DirOk D.files.length D.seen := h.path.ok1
theorem DiskOk.sure {D : Disk} (h : DiskOk D) : DirOk D.files.length D.sure := h.path.ok0

theorem flen_le {D : Disk} (h : DiskOk D) (n : Nat) : flen D.files n ≤ 2 ^ 20 := by
  unfold flen
  split
  · rename_i f hf
    exact ((h.files f (List.mem_of_getElem? hf)).1).len1
  · exact Nat.zero_le _
theorem sum_le {M : Nat} : ∀ {l : List Nat}, (∀ x ∈ l, x ≤ M) → l.sum ≤ l.length * M
  | [], _ => by simp
  | x :: xs, h => by
    have := sum_le (l := xs) fun y hy => h y (List.mem_cons_of_mem _ hy)
    have h2 := h x (List.mem_cons_self ..)
    simp only [List.sum_cons, List.length_cons, Nat.add_mul]
    omega

theorem ddel_len (k : Name) : ∀ (d : Dir), (ddel k d).length ≤ d.length
  | d => (ddel_sub k d).length_le
theorem ddel_len_lt {k : Name} : ∀ {d : Dir}, dget k d ≠ none → (ddel k d).length + 1 = d.length
  | [], h => absurd rfl h
  | p :: ps, h => by
    unfold dget at h
    unfold ddel
    split
    · rfl
    · rename_i hne
      rw [if_neg hne] at h
      simp only [List.length_cons]
      rw [ddel_len_lt h]
theorem dput_len {d : Dir} (h : DSort d) (k : Name) (n : Nat) : (dput k n d).length = (ddel k d).length + 1 := (dput_perm h k n).length_eq
theorem dput_mem {d : Dir} (h : DSort d) {k : Name} {n : Nat} {p : Name × Nat} (hp : p ∈ dput k n d) : p = (k, n) ∨ p ∈ d := by
  rcases List.mem_cons.1 ((dput_perm h k n).mem_iff.1 hp) with h1 | h1
  · exact .inl h1
  · exact .inr ((ddel_sub k d).subset h1)

theorem DirOk.put {n : Nat} {d : Dir} (h : DirOk n d) {k : Name} {i : Nat} (hi : i < n) (hl : (ddel k d).length < 64) : DirOk n (dput k i d) := by
  refine ⟨h.1.dput k i, by rw [dput_len h.1]; omega, fun p hp => ?_⟩
  rcases dput_mem h.1 hp with rfl | hp
  · exact hi
  · exact h.2.2 p hp
theorem DirOk.del {n : Nat} {d : Dir} (h : DirOk n d) (k : Name) : DirOk n (ddel k d) := ⟨h.1.ddel k, Nat.le_trans (ddel_len k d) h.2.1, fun p hp => h.2.2 p ((ddel_sub k d).subset hp)⟩
theorem MvOk.app {n : Nat} {m : Mv} {d : Dir} (h : MvOk n m d) (hd : DirOk n d) (hl : m.kind = 0 → d.length < 64) : DirOk n (m.app d) := by
  unfold Mv.app
  split
  · rename_i h0
    exact hd.put (h.2.1 h0).1 (Nat.lt_of_le_of_lt (ddel_len _ _) (hl h0))
  · rename_i h0
    split
    · rename_i h1
      have h2 := h.2.2 h0
      have h3 := ddel_len_lt h2
      have h4 := hd.2.1
      cases hg : dget m.src d with
      | none => exact absurd hg h2
      | some i =>
        exact (hd.del _).put (hd.2.2 _ (dget_mem hg)) (Nat.lt_of_le_of_lt (ddel_len _ _) (by omega))
    · exact hd.del _

/-! ## The deeds -/
def Disk.fin (D : Disk) (D' : Disk) : Int × Disk := (if D.fuse = 1 then 13 else 0, D'.blow)
def Disk.turnBy (D : Disk) (m : Mv) : Disk := { D with seen := m.app D.seen, row := D.row ++ [m] }
def Disk.chgBy (D : Disk) (n : Nat) (c : Chg) : Disk := { D with files := D.files.modify n fun f => { f with now := c.app f.now, row := f.row ++ [c] } }
def Disk.syncBy (D : Disk) (n : Nat) : Disk := { D with files := D.files.modify n fun f => { f with sure := f.now, row := [] } }
def nowOf (D : Disk) (n : Nat) : List UInt8 := match D.files[n]? with | some f => f.now | none => []
def dCreate (name : Name) (D : Disk) : Int × Disk :=
  if D.dead then (13, D) else if !isNm name then (2, D) else if (dget name D.seen).isSome then (8, D) else if 64 ≤ D.seen.length then (3, D)
  else D.fin (Disk.turnBy { D with files := D.files ++ [⟨[], [], []⟩] } ⟨0, str [], name, D.files.length⟩)
def withFile (name : Name) (D : Disk) (go : Nat → Int × Disk) : Int × Disk :=
  if D.dead then (13, D) else match dget name D.seen with | none => (7, D) | some n => go n
def dAppend (name : Name) (b : List UInt8) (D : Disk) : Int × Disk :=
  withFile name D fun n => if 0 < b.length ∧ (b.length : Int) > (D.room : Int) - (D.used : Int) then (9, D) else D.fin (D.chgBy n ⟨false, (nowOf D n).length, b⟩)
def dWrite (name : Name) (off : Int) (b : List UInt8) (D : Disk) : Int × Disk :=
  withFile name D fun n => if off < 0 ∨ ((nowOf D n).length : Int) < off then (2, D)
    else if (b.length : Int) - ((nowOf D n).length - off) > 0 ∧ (b.length : Int) - ((nowOf D n).length - off) > (D.room : Int) - (D.used : Int) then (9, D)
    else D.fin (D.chgBy n ⟨false, off.toNat, b⟩)
def dCut (name : Name) (size : Int) (D : Disk) : Int × Disk :=
  withFile name D fun n => if size < 0 ∨ ((nowOf D n).length : Int) < size then (2, D) else D.fin (D.chgBy n ⟨true, size.toNat, []⟩)
def dRename (src dst : Name) (D : Disk) : Int × Disk :=
  withFile src D fun n => if !isNm dst then (2, D) else D.fin (D.turnBy ⟨1, src, dst, 0⟩)
def dRemove (name : Name) (D : Disk) : Int × Disk :=
  withFile name D fun n => D.fin (D.turnBy ⟨2, name, str [], 0⟩)
def dSync (name : Name) (D : Disk) : Int × Disk :=
  withFile name D fun n => if D.fuse = 1 then (13, D.blow) else (0, D.blow.syncBy n)
def dSyncDir (D : Disk) : Int × Disk :=
  if D.dead then (13, D) else if D.fuse = 1 then (13, D.blow) else (0, { D.blow with sure := D.seen, row := [] })
def dArm (n : Int) (D : Disk) : Int × Disk :=
  if D.dead then (13, D) else if n < 0 then (2, D) else (0, { D with fuse := n.toNat })

end Go.Disk
