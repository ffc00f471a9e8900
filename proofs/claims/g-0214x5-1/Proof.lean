import JvmDerived
import JvmDerived.Pilot.@@N@@Statement
import JvmDerived.Pilot.@@N@@Code
set_option linter.unusedVariables false
set_option linter.unusedSimpArgs false
@@BLOCK:NumsL.lean.txt@@
namespace Jvm.LM
open Sem ClassFile Op Lib Jvm.Stand Jvm.Free Jvm.LawKit Jvm.RoadKit
/-! A small machine over plain data that mirrors the bytecode of one class and of a law over it. -/
abbrev Lv := List (Option Value)
abbrev St := (Nat → Nat → Int32) × (Nat → Nat → Int64)
abbrev Cd := List (Nat × Instr × Nat)
/-- name, descriptor, kind (0 int, 1 boolean, 2 long, 3+j the j-th array), final -/
abbrev Fe := String × String × Nat × Bool
/-- name, descriptor, number of arguments, return kind (0 none, 1 int, 2 boolean, 3 long), code, max_locals, room: frames, locals -/
abbrev Me := String × String × Nat × Nat × Cd × Nat × Nat × Nat
/-- class name, fields, arrays (kind, length), pool to field, pool to method, pool to constant, methods, pool index of Object's constructor -/
abbrev Cl := String × List (Nat × Fe) × List (Nat × Nat) × List (Nat × Nat) × List (Nat × Nat) × List (Nat × Value) × List (Nat × Me) × Nat
def Me.nm (m : Me) : String := m.1
def Me.ds (m : Me) : String := m.2.1
def Me.na (m : Me) : Nat := m.2.2.1
def Me.rt (m : Me) : Nat := m.2.2.2.1
def Me.cd (m : Me) : Cd := m.2.2.2.2.1
def Me.ml (m : Me) : Nat := m.2.2.2.2.2.1
def Me.rf (m : Me) : Nat := m.2.2.2.2.2.2.1
def Me.rl (m : Me) : Nat := m.2.2.2.2.2.2.2
def Cl.nm (P : Cl) : String := P.1
def Cl.fs (P : Cl) : List (Nat × Fe) := P.2.1
def Cl.al (P : Cl) : List (Nat × Nat) := P.2.2.1
def Cl.fx (P : Cl) : List (Nat × Nat) := P.2.2.2.1
def Cl.mx (P : Cl) : List (Nat × Nat) := P.2.2.2.2.1
def Cl.kx (P : Cl) : List (Nat × Value) := P.2.2.2.2.2.1
def Cl.ms (P : Cl) : List (Nat × Me) := P.2.2.2.2.2.2.1
def Cl.oi (P : Cl) : Nat := P.2.2.2.2.2.2.2
def gI (s : St) (c j : Nat) : Int32 := s.1 c j
def gL (s : St) (c j : Nat) : Int64 := s.2 c j
def sI (s : St) (c j : Nat) (v : Int32) : St := (fun a b => if a = c ∧ b = j then v else s.1 a b, s.2)
def sL (s : St) (c j : Nat) (v : Int64) : St := (s.1, fun a b => if a = c ∧ b = j then v else s.2 a b)
def s0 : St := (fun _ _ => 0, fun _ _ => 0)
def ix (i : Int32) : Nat := i.toNatClampNeg
abbrev inb (n : Nat) (i : Int32) : Prop := 0 ≤ i.toInt ∧ i.toInt < (n : Int)
def asc {α : Type} : List (Nat × α) → Nat → Option α
  | [], _ => none
  | (a, b) :: r, k => match Nat.beq a k with
    | true => some b
    | false => asc r k
def fetch : Cd → Nat → Option (Instr × Nat)
  | [], _ => none
  | (a, b) :: r, k => match Nat.beq a k with
    | true => some b
    | false => fetch r k
def ilen : Instr → Nat
  | .iload _ => 2 | .lload _ => 2 | .aload _ => 2 | .istore _ => 2 | .lstore _ => 2 | .astore _ => 2 | .bipush _ => 2 | .ldc _ => 2 | .newarray _ => 2
  | .sipush _ => 3 | .iinc _ _ => 3 | .goto _ => 3 | .ifCond _ _ => 3 | .if_icmp _ _ => 3 | .getfield _ => 3 | .putfield _ => 3
  | .invokevirtual _ => 3 | .invokespecial _ => 3 | .invokestatic _ => 3 | .new _ => 3 | .ldc2_w _ => 3
  | _ => 1
def isSw : Instr → Bool
  | .tableswitch _ _ _ _ => true
  | _ => false
def clr (ls : Lv) : Nat → Lv
  | 0 => ls
  | j + 1 => match ls[j]? with
    | some (some (.long _)) => ls.set j none
    | some (some (.double _)) => ls.set j none
    | _ => ls
/-- a store into the local variables: a long takes two -/
def stl (ls : Lv) (i : Nat) (v : Value) : Option Lv :=
  match v with
  | .long x => if i + 1 < ls.length then some (((clr ls i).set i (some (.long x))).set (i + 1) none) else none
  | w => if i < ls.length then some ((clr ls i).set i (some w)) else none
def br (cd : ClassFile.Cond) (x y : Int32) (a b : Nat) : Nat :=
  match cd with
  | .eq => if x = y then a else b
  | .ne => if x = y then b else a
  | .lt => if x < y then a else b
  | .ge => if x < y then b else a
  | .gt => if y < x then a else b
  | .le => if y < x then b else a
def jmp (pc : Nat) (o : Int) : Nat := ((pc : Int) + o).toNat
def qstep (i : Instr) (pc : Nat) (st : List Value) : Option (Nat × List Value) :=
  match i with
  | .iconst v => some (pc + 1, .int (Int32.ofInt v) :: st)
  | .bipush v => some (pc + 2, .int (Int8.ofInt v).toInt32 :: st)
  | .sipush v => some (pc + 3, .int (Int16.ofInt v).toInt32 :: st)
  | .lconst k => some (pc + 1, .long (Int64.ofNat k) :: st)
  | .iadd => match st with | .int y :: .int x :: r => some (pc + 1, .int (x + y) :: r) | _ => none
  | .isub => match st with | .int y :: .int x :: r => some (pc + 1, .int (x - y) :: r) | _ => none
  | .imul => match st with | .int y :: .int x :: r => some (pc + 1, .int (x * y) :: r) | _ => none
  | .iand => match st with | .int y :: .int x :: r => some (pc + 1, .int (x &&& y) :: r) | _ => none
  | .ior => match st with | .int y :: .int x :: r => some (pc + 1, .int (x ||| y) :: r) | _ => none
  | .ixor => match st with | .int y :: .int x :: r => some (pc + 1, .int (x ^^^ y) :: r) | _ => none
  | .ishl => match st with | .int y :: .int x :: r => some (pc + 1, .int (x <<< (y &&& 31)) :: r) | _ => none
  | .ishr => match st with | .int y :: .int x :: r => some (pc + 1, .int (x >>> (y &&& 31)) :: r) | _ => none
  | .iushr => match st with | .int y :: .int x :: r => some (pc + 1, .int (XT.ushr x y) :: r) | _ => none
  | .idiv => match st with | .int y :: .int x :: r => if y = 0 then none else some (pc + 1, .int (x / y) :: r) | _ => none
  | .irem => match st with | .int y :: .int x :: r => if y = 0 then none else some (pc + 1, .int (x % y) :: r) | _ => none
  | .ineg => match st with | .int x :: r => some (pc + 1, .int (-x) :: r) | _ => none
  | .ladd => match st with | .long y :: .long x :: r => some (pc + 1, .long (x + y) :: r) | _ => none
  | .lsub => match st with | .long y :: .long x :: r => some (pc + 1, .long (x - y) :: r) | _ => none
  | .lmul => match st with | .long y :: .long x :: r => some (pc + 1, .long (x * y) :: r) | _ => none
  | .land => match st with | .long y :: .long x :: r => some (pc + 1, .long (x &&& y) :: r) | _ => none
  | .lor => match st with | .long y :: .long x :: r => some (pc + 1, .long (x ||| y) :: r) | _ => none
  | .lxor => match st with | .long y :: .long x :: r => some (pc + 1, .long (x ^^^ y) :: r) | _ => none
  | .lshl => match st with | .int y :: .long x :: r => some (pc + 1, .long (x <<< (y.toInt64 &&& 63)) :: r) | _ => none
  | .lshr => match st with | .int y :: .long x :: r => some (pc + 1, .long (x >>> (y.toInt64 &&& 63)) :: r) | _ => none
  | .lushr => match st with | .int y :: .long x :: r => some (pc + 1, .long (XT.ushrL x y) :: r) | _ => none
  | .ldiv => match st with | .long y :: .long x :: r => if y = 0 then none else some (pc + 1, .long (x / y) :: r) | _ => none
  | .lneg => match st with | .long x :: r => some (pc + 1, .long (-x) :: r) | _ => none
  | .lcmp => match st with | .long y :: .long x :: r => some (pc + 1, .int (XT.cmpL x y) :: r) | _ => none
  | .i2l => match st with | .int x :: r => some (pc + 1, .long x.toInt64 :: r) | _ => none
  | .l2i => match st with | .long x :: r => some (pc + 1, .int x.toInt32 :: r) | _ => none
  | .dup => match st with | .int x :: r => some (pc + 1, .int x :: .int x :: r) | .ref x :: r => some (pc + 1, .ref x :: .ref x :: r) | _ => none
  | .pop => match st with | .int _ :: r => some (pc + 1, r) | .ref _ :: r => some (pc + 1, r) | _ => none
  | .goto o => if 0 ≤ (pc : Int) + o then some (jmp pc o, st) else none
  | .ifCond cd o => match st with | .int x :: r => if 0 ≤ (pc : Int) + o then some (br cd x 0 (jmp pc o) (pc + 3), r) else none | _ => none
  | .if_icmp cd o => match st with | .int y :: .int x :: r => if 0 ≤ (pc : Int) + o then some (br cd x y (jmp pc o) (pc + 3), r) else none | _ => none
  | .tableswitch d lo hi offs => match st with
    | .int x :: r => if x.toInt < lo ∨ x.toInt > hi then (if 0 ≤ (pc : Int) + d then some (jmp pc d, r) else none)
      else (match offs[(x.toInt - lo).toNat]? with | some o => if 0 ≤ (pc : Int) + o then some (jmp pc o, r) else none | none => none)
    | _ => none
  | _ => none
def pstep (i : Instr) (pc : Nat) (ls : Lv) (st : List Value) : Option (Nat × Lv × List Value) :=
  match i with
  | .iload_n k => match ls[k.val]? with | some (some (.int v)) => some (pc + 1, ls, .int v :: st) | _ => none
  | .iload k => match ls[k]? with | some (some (.int v)) => some (pc + 2, ls, .int v :: st) | _ => none
  | .lload_n k => match ls[k.val]? with | some (some (.long v)) => some (pc + 1, ls, .long v :: st) | _ => none
  | .lload k => match ls[k]? with | some (some (.long v)) => some (pc + 2, ls, .long v :: st) | _ => none
  | .aload_n k => match ls[k.val]? with | some (some (.ref v)) => some (pc + 1, ls, .ref v :: st) | _ => none
  | .aload k => match ls[k]? with | some (some (.ref v)) => some (pc + 2, ls, .ref v :: st) | _ => none
  | .istore_n k => match st with | .int v :: r => (match stl ls k.val (.int v) with | some l => some (pc + 1, l, r) | none => none) | _ => none
  | .istore k => match st with | .int v :: r => (match stl ls k (.int v) with | some l => some (pc + 2, l, r) | none => none) | _ => none
  | .lstore_n k => match st with | .long v :: r => (match stl ls k.val (.long v) with | some l => some (pc + 1, l, r) | none => none) | _ => none
  | .lstore k => match st with | .long v :: r => (match stl ls k (.long v) with | some l => some (pc + 2, l, r) | none => none) | _ => none
  | .astore_n k => match st with | .ref v :: r => (match stl ls k.val (.ref v) with | some l => some (pc + 1, l, r) | none => none) | _ => none
  | .astore k => match st with | .ref v :: r => (match stl ls k (.ref v) with | some l => some (pc + 2, l, r) | none => none) | _ => none
  | .iinc k d => match ls[k]? with | some (some (.int v)) => (match stl ls k (.int (v + Int32.ofInt d)) with | some l => some (pc + 3, l, st) | none => none) | _ => none
  | i => match qstep i pc st with | some (pc', st') => some (pc', ls, st') | none => none
/-- how the machine's references stand in the heap -/
def va (ρ : Nat → Nat) : Value → Value
  | .ref c => .ref (ρ c)
  | v => v
def WF (L : Array Slot) : Prop :=
  (∀ (k : Nat) (v : Value), L[k]? = some (Slot.val v) → v.category = 2 → L[k + 1]? = some .second) ∧
  (∀ k : Nat, L[k + 1]? = some Slot.second → ∃ v : Value, L[k]? = some (Slot.val v) ∧ v.category = 2) ∧ L[0]? ≠ some Slot.second
def LR (ρ : Nat → Nat) (ls : Lv) (L : Array Slot) : Prop :=
  L.size = ls.length ∧ (∀ (k : Nat) (v : Value), ls[k]? = some (some v) → L[k]? = some (Slot.val (va ρ v))) ∧ WF L
end Jvm.LM

namespace Jvm.LM
open Sem ClassFile Op Lib Jvm.Stand Jvm.Free Jvm.LawKit Jvm.RoadKit
/-! the local variables -/
def upd (f : Nat → Option Slot) (i : Nat) (x : Slot) : Nat → Option Slot := fun k => if k = i then some x else f k
def WFf (f : Nat → Option Slot) : Prop :=
  (∀ k v, f k = some (.val v) → v.category = 2 → f (k + 1) = some .second) ∧
  (∀ k, f (k + 1) = some .second → ∃ v, f k = some (.val v) ∧ v.category = 2) ∧ f 0 ≠ some .second
def clearF (f : Nat → Option Slot) (i : Nat) : Nat → Option Slot :=
  match f i with
  | some .second => upd (upd f (i - 1) .unset) i .unset
  | some (.val old) => if old.category = 2 then upd (upd f (i + 1) .unset) i .unset else upd f i .unset
  | _ => f
theorem clearF_cases (f : Nat → Option Slot) (i : Nat) : (f i = some .second ∧ clearF f i = upd (upd f (i - 1) .unset) i .unset) ∨ (∃ old, f i = some (.val old) ∧ old.category = 2 ∧ clearF f i = upd (upd f (i + 1) .unset) i .unset) ∨
    (∃ old, f i = some (.val old) ∧ old.category ≠ 2 ∧ clearF f i = upd f i .unset) ∨ ((f i = some .unset ∨ f i = none) ∧ clearF f i = f) := by
  cases h : f i with
  | none => exact Or.inr (Or.inr (Or.inr ⟨Or.inr rfl, by simp only [clearF, h]⟩))
  | some x =>
    cases x with
    | unset => exact Or.inr (Or.inr (Or.inr ⟨Or.inl rfl, by simp only [clearF, h]⟩))
    | second => exact Or.inl ⟨rfl, by simp only [clearF, h]⟩
    | val old =>
      by_cases hc : old.category = 2
      · exact Or.inr (Or.inl ⟨old, rfl, hc, by simp only [clearF, h]; rw [if_pos hc]⟩)
      · exact Or.inr (Or.inr (Or.inl ⟨old, rfl, hc, by simp only [clearF, h]; rw [if_neg hc]⟩))
theorem wff_clear {f : Nat → Option Slot} (h : WFf f) (i : Nat) : WFf (clearF f i) := by
  obtain ⟨h1, h2, h3⟩ := h
  unfold clearF
  split
  · rename_i e
    cases i with
    | zero => exact absurd e h3
    | succ j =>
      refine ⟨fun k v hk hc => ?_, fun k hk => ?_, ?_⟩
      · simp only [upd, Nat.add_sub_cancel] at hk ⊢
        have := h1 k v
        by_cases a : k = j + 1
        · simp [a] at hk
        · by_cases b : k = j
          · simp [b] at hk
          · have c : k + 1 ≠ j + 1 := by omega
            simp only [a, b, if_false] at hk
            by_cases d : k + 1 = j
            · have := h1 k v hk hc
              obtain ⟨w, hw, hw2⟩ := h2 j e
              rw [d, hw] at this; cases this
            · simp [c, d, b, h1 k v hk hc]
      · simp only [upd, Nat.add_sub_cancel] at hk ⊢
        by_cases a : k = j
        · simp [a] at hk
        · by_cases b : k + 1 = j
          · simp [b] at hk
          · simp only [show ¬ (k + 1 = j + 1) by omega, b, if_false] at hk
            obtain ⟨w, hw, hw2⟩ := h2 k hk
            by_cases d : k = j + 1
            · rw [d, e] at hw; cases hw
            · exact ⟨w, by simp [d, a, hw], hw2⟩
      · simp only [upd, Nat.add_sub_cancel]
        by_cases b : 0 = j
        · simp [← b]
        · simp [b, h3]
  · rename_i old e
    split
    · rename_i hc2
      have e2 := h1 i old e hc2
      refine ⟨fun k v hk hc => ?_, fun k hk => ?_, ?_⟩
      · simp only [upd] at hk ⊢
        by_cases a : k = i
        · simp [a] at hk
        · by_cases b : k = i + 1
          · simp [b] at hk
          · simp only [a, b, if_false] at hk
            have q := h1 k v hk hc
            by_cases d : k + 1 = i
            · rw [d, e] at q; cases q
            · simp [d, a, show ¬ (k + 1 = i + 1) by omega, q]
      · simp only [upd] at hk ⊢
        by_cases a : k + 1 = i
        · simp [a] at hk
        · by_cases b : k = i
          · simp [b] at hk
          · simp only [a, show ¬ (k + 1 = i + 1) by omega, if_false] at hk
            obtain ⟨w, hw, hw2⟩ := h2 k hk
            by_cases d : k = i + 1
            · rw [d, e2] at hw; cases hw
            · exact ⟨w, by simp [d, b, hw], hw2⟩
      · simp only [upd]
        by_cases b : 0 = i
        · simp [← b]
        · simp [b, h3]
    · rename_i hc2
      refine ⟨fun k v hk hc => ?_, fun k hk => ?_, ?_⟩
      · simp only [upd] at hk ⊢
        by_cases a : k = i
        · simp [a] at hk
        · simp only [a, if_false] at hk
          have q := h1 k v hk hc
          by_cases d : k + 1 = i
          · rw [d, e] at q; cases q
          · simp [d, q]
      · simp only [upd] at hk ⊢
        by_cases a : k + 1 = i
        · simp [a] at hk
        · simp only [a, if_false] at hk
          obtain ⟨w, hw, hw2⟩ := h2 k hk
          by_cases d : k = i
          · rw [d, e] at hw; cases hw; exact absurd hw2 hc2
          · exact ⟨w, by simp [d, hw], hw2⟩
      · simp only [upd]
        by_cases b : 0 = i
        · simp [← b]
        · simp [b, h3]
  · exact ⟨h1, h2, h3⟩
theorem wff_one {f : Nat → Option Slot} (h : WFf f) {i : Nat} (e : f i = some .unset) {v : Value} (hv : v.category ≠ 2) : WFf (upd f i (.val v)) := by
  obtain ⟨h1, h2, h3⟩ := h
  refine ⟨fun k w hk hc => ?_, fun k hk => ?_, ?_⟩
  · simp only [upd] at hk ⊢
    by_cases a : k = i
    · simp only [a, if_true, Option.some.injEq, Slot.val.injEq] at hk; subst hk; exact absurd hc hv
    · simp only [a, if_false] at hk
      have q := h1 k w hk hc
      by_cases d : k + 1 = i
      · rw [d, e] at q; cases q
      · simp [d, q]
  · simp only [upd] at hk ⊢
    by_cases a : k + 1 = i
    · simp [a] at hk
    · simp only [a, if_false] at hk
      obtain ⟨w, hw, hw2⟩ := h2 k hk
      by_cases d : k = i
      · rw [d, e] at hw; cases hw
      · exact ⟨w, by simp [d, hw], hw2⟩
  · simp only [upd]
    by_cases b : 0 = i
    · simp [← b]
    · simp [b, h3]
theorem wff_two {f : Nat → Option Slot} (h : WFf f) {i : Nat} (e : f i = some .unset) (e' : f (i + 1) = some .unset) {v : Value} (hv : v.category = 2) : WFf (upd (upd f i (.val v)) (i + 1) .second) := by
  obtain ⟨h1, h2, h3⟩ := h
  refine ⟨fun k w hk hc => ?_, fun k hk => ?_, ?_⟩
  · simp only [upd] at hk ⊢
    by_cases a : k = i + 1
    · simp [a] at hk
    · by_cases b : k = i
      · simp [b]
      · simp only [a, b, if_false] at hk
        have q := h1 k w hk hc
        by_cases d : k + 1 = i
        · rw [d, e] at q; cases q
        · simp [d, show ¬ (k + 1 = i + 1) by omega, q]
  · simp only [upd] at hk ⊢
    by_cases a : k = i
    · exact ⟨v, by simp [a], hv⟩
    · by_cases b : k + 1 = i
      · simp [b] at hk
      · simp only [show ¬ (k + 1 = i + 1) by omega, b, if_false] at hk
        obtain ⟨w, hw, hw2⟩ := h2 k hk
        by_cases d : k = i + 1
        · rw [d, e'] at hw; cases hw
        · exact ⟨w, by simp [d, a, hw], hw2⟩
  · simp only [upd]
    by_cases b : 0 = i
    · simp [← b]
    · simp [b, h3]
theorem gset (L : Array Slot) {i : Nat} (hi : i < L.size) (x : Slot) : (fun k => (L.setIfInBounds i x)[k]?) = upd (fun k => L[k]?) i x := by
  funext k
  simp only [upd, Array.getElem?_setIfInBounds]
  by_cases a : i = k
  · subst a; simp [hi]
  · simp [a, show ¬ k = i from fun h => a h.symm]
theorem sl_eq (L : Array Slot) (i : Nat) (v : Value) : storeLocals L i v = (L[i]?).bind (fun x => match x with
    | .second => (setAt L (i - 1) .unset).bind (fun l => storeSelf l i v)
    | .val old => if old.category = 2 then (setAt L (i + 1) .unset).bind (fun l => storeSelf l i v) else storeSelf L i v
    | .unset => storeSelf L i v) := rfl
theorem ss_eq (L : Array Slot) (i : Nat) (v : Value) : storeSelf L i v = (setAt L i (.val v)).bind (fun l => if v.category = 2 then (l[i + 1]?).bind (fun x => match x with
    | .val old => if old.category = 2 then (setAt l (i + 2) .unset).bind (fun l' => setAt l' (i + 1) .second) else setAt l (i + 1) .second
    | _ => setAt l (i + 1) .second) else some l) := rfl
theorem sa_eq {L : Array Slot} {i : Nat} (hi : i < L.size) (x : Slot) : setAt L i x = some (L.setIfInBounds i x) := if_pos hi
theorem upd_upd (f : Nat → Option Slot) (i : Nat) (x y : Slot) : upd (upd f i x) i y = upd f i y := by
  funext k; simp only [upd]; split <;> rfl
/-- what a store clears first -/
theorem clear_ok {L : Array Slot} (hW : WF L) {i : Nat} (hi : i < L.size) (v : Value) : ∃ L1, storeLocals L i v = storeSelf L1 i v ∧ L1.size = L.size ∧ upd (fun k => L1[k]?) i .unset = upd (clearF (fun k => L[k]?) i) i .unset := by
  have hh : WFf (fun k => L[k]?) := hW
  obtain ⟨sl, hsl⟩ : ∃ sl, L[i]? = some sl := ⟨L[i], Array.getElem?_eq_getElem hi⟩
  rw [sl_eq, hsl, Option.bind_some]
  cases sl with
  | unset => exact ⟨L, rfl, rfl, by simp only [clearF, hsl]⟩
  | second =>
    refine ⟨L.setIfInBounds (i - 1) .unset, ?_, by simp, ?_⟩
    · show (setAt L (i - 1) .unset).bind _ = _
      rw [sa_eq (by omega)]; rfl
    · rw [gset _ (by omega)]; simp only [clearF, hsl, upd_upd]
  | val old =>
    by_cases hc : old.category = 2
    · have h2 := hh.1 i old hsl hc
      have hlt : i + 1 < L.size := (Array.getElem?_eq_some_iff.mp h2).1
      refine ⟨L.setIfInBounds (i + 1) .unset, ?_, by simp, ?_⟩
      · show (if old.category = 2 then _ else _) = _
        rw [if_pos hc, sa_eq hlt]; rfl
      · rw [gset _ hlt]; simp only [clearF, hsl, hc, if_true, upd_upd]
    · refine ⟨L, ?_, rfl, ?_⟩
      · show (if old.category = 2 then _ else _) = _
        rw [if_neg hc]
      · simp only [clearF, hsl, hc, if_false, upd_upd]
theorem clearF_at {f : Nat → Option Slot} {i : Nat} (hi : f i ≠ none) : clearF f i i = some .unset := by
  rcases clearF_cases f i with ⟨h1, h2⟩ | ⟨old, h1, h3, h2⟩ | ⟨old, h1, h3, h2⟩ | ⟨h1 | h1, h2⟩
  · rw [h2]; simp [upd]
  · rw [h2]; simp [upd]
  · rw [h2]; simp [upd]
  · rw [h2]; exact h1
  · exact absurd h1 hi
theorem clearF_self {f : Nat → Option Slot} {i : Nat} (hi : f i ≠ none) : upd (clearF f i) i .unset = clearF f i := by
  funext k; simp only [upd]; split
  · rename_i e; rw [e]; exact (clearF_at hi).symm
  · rfl
/-- the other variables: kept, or they held (a part of) a long -/
theorem clearF_keep {f : Nat → Option Slot} (h : WFf f) {i k : Nat} {w : Value} (hk : k ≠ i) (e : f k = some (.val w)) (hw : k + 1 = i → w.category ≠ 2) : clearF f i k = some (.val w) := by
  rcases clearF_cases f i with ⟨e2, h2⟩ | ⟨old, e2, hc, h2⟩ | ⟨old, e2, hc, h2⟩ | ⟨-, h2⟩
  · rw [h2]
    cases i with
    | zero => exact absurd e2 h.2.2
    | succ j =>
      simp only [upd, Nat.add_sub_cancel, hk, if_false]
      split
      · rename_i hj; subst hj
        obtain ⟨v, hv, hv2⟩ := h.2.1 k e2
        rw [e] at hv; cases hv; exact absurd hv2 (hw rfl)
      · exact e
  · rw [h2]
    have q := h.1 i old e2 hc
    simp only [upd, hk, if_false]
    split
    · rename_i hj; rw [hj, q] at e; cases e
    · exact e
  · rw [h2]; simp [upd, hk, e]
  · rw [h2]; exact e
theorem store_one {L : Array Slot} (hW : WF L) {i : Nat} (hi : i < L.size) {v : Value} (hv : v.category ≠ 2) :
    ∃ L', storeLocals L i v = some L' ∧ L'.size = L.size ∧ WF L' ∧ (fun k => L'[k]?) = upd (clearF (fun k => L[k]?) i) i (.val v) := by
  obtain ⟨L1, h1, h2, h3⟩ := clear_ok hW hi v
  have hne : (fun k => L[k]?) i ≠ none := by simp; omega
  have hi1 : i < L1.size := by omega
  refine ⟨L1.setIfInBounds i (.val v), ?_, by simp [h2], ?_, ?_⟩
  · rw [h1, ss_eq, sa_eq hi1, Option.bind_some, if_neg hv]
  · have q : (fun k => (L1.setIfInBounds i (.val v))[k]?) = upd (clearF (fun k => L[k]?) i) i (.val v) := by
      rw [gset _ hi1, ← upd_upd _ i .unset, h3, upd_upd]
    have w : WFf (fun k => (L1.setIfInBounds i (.val v))[k]?) := by
      rw [q]; exact wff_one (wff_clear hW i) (clearF_at hne) hv
    exact w
  · rw [gset _ hi1, ← upd_upd _ i .unset, h3, upd_upd]
theorem store_two {L : Array Slot} (hW : WF L) {i : Nat} (hi : i + 1 < L.size) {v : Value} (hv : v.category = 2) :
    ∃ L', storeLocals L i v = some L' ∧ L'.size = L.size ∧ WF L' ∧ (fun k => L'[k]?) = upd (upd (clearF (clearF (fun k => L[k]?) i) (i + 1)) i (.val v)) (i + 1) .second := by
  obtain ⟨L1, h1, h2, h3⟩ := clear_ok hW (show i < L.size by omega) v
  have hne : (fun k => L[k]?) i ≠ none := by simp; omega
  have hi1 : i < L1.size := by omega
  have hi2 : i + 1 < L1.size := by omega
  rw [clearF_self hne] at h3
  have hWc := wff_clear (f := fun k => L[k]?) hW i
  generalize hF : clearF (fun k => L[k]?) i = F at *
  have hFi : F i = some .unset := by rw [← hF]; exact clearF_at hne
  have g1 : (fun k => (L1.setIfInBounds i (.val v))[k]?) = upd F i (.val v) := by rw [gset _ hi1, ← upd_upd _ i .unset, h3]
  have g2 : (L1.setIfInBounds i (.val v))[i + 1]? = F (i + 1) := by
    have := congrFun g1 (i + 1); simpa [upd] using this
  have hFi1 : F (i + 1) ≠ none := by
    have : (L1.setIfInBounds i (.val v))[i + 1]? ≠ none := by simp; omega
    rw [g2] at this; exact this
  have hns : F (i + 1) ≠ some .second := fun q => by
    obtain ⟨w, hw, -⟩ := hWc.2.1 i q
    rw [hFi] at hw; cases hw
  have key : ∀ G : Nat → Option Slot, WFf G → G i = some .unset → G (i + 1) = some .unset → G = clearF F (i + 1) → WFf (upd (upd (clearF F (i + 1)) i (.val v)) (i + 1) .second) := fun G hG a b e => by rw [← e]; exact wff_two hG a b hv
  have hcl := wff_clear hWc (i + 1)
  have hcli : clearF F (i + 1) i = some .unset := by
    rcases clearF_cases F (i + 1) with ⟨q, h2⟩ | ⟨old, q, hc, h2⟩ | ⟨old, q, hc, h2⟩ | ⟨-, h2⟩
    · exact absurd q hns
    · rw [h2]; simp [upd, hFi]
    · rw [h2]; simp [upd, hFi]
    · rw [h2]; exact hFi
  have hWF := wff_two hcl hcli (clearF_at hFi1) hv
  rw [h1, ss_eq, sa_eq hi1, Option.bind_some, if_pos hv, g2]
  cases hx : F (i + 1) with
  | none => exact absurd hx hFi1
  | some sl =>
    cases sl with
    | second => exact absurd hx hns
    | unset =>
      have e1 : clearF F (i + 1) = F := by simp only [clearF, hx]
      have e3 : (fun k => ((L1.setIfInBounds i (.val v)).setIfInBounds (i + 1) .second)[k]?) = upd (upd (clearF F (i + 1)) i (.val v)) (i + 1) .second := by
        rw [gset _ (by simpa using hi2), g1, e1]
      refine ⟨(L1.setIfInBounds i (.val v)).setIfInBounds (i + 1) .second, ?_, by simp [h2], ?_, e3⟩
      · show setAt _ (i + 1) .second = _
        rw [sa_eq (by simpa using hi2)]
      · have w : WFf (fun k => ((L1.setIfInBounds i (.val v)).setIfInBounds (i + 1) .second)[k]?) := by rw [e3]; exact hWF
        exact w
    | val old =>
      by_cases hc : old.category = 2
      · have q := hWc.1 _ _ hx hc
        have hi3 : i + 2 < L1.size := by
          have q2 : (L1.setIfInBounds i (.val v))[i + 2]? = some .second := by
            have := congrFun g1 (i + 2); simpa [upd, q] using this
          have := (Array.getElem?_eq_some_iff.mp q2).1
          simpa using this
        have e1 : clearF F (i + 1) = upd (upd F (i + 2) .unset) (i + 1) .unset := by simp only [clearF, hx, hc, if_true]
        have e3 : (fun k => (((L1.setIfInBounds i (.val v)).setIfInBounds (i + 2) .unset).setIfInBounds (i + 1) .second)[k]?) = upd (upd (clearF F (i + 1)) i (.val v)) (i + 1) .second := by
          rw [gset _ (by simpa using hi2), gset _ (by simpa using hi3), g1, e1]
          funext k; simp only [upd]
          by_cases a : k = i + 1
          · simp [a]
          · by_cases b : k = i
            · simp [b]
            · simp [a, b]
        refine ⟨((L1.setIfInBounds i (.val v)).setIfInBounds (i + 2) .unset).setIfInBounds (i + 1) .second, ?_, by simp [h2], ?_, e3⟩
        · show (if old.category = 2 then _ else _) = _
          rw [if_pos hc, sa_eq (by simpa using hi3), Option.bind_some, sa_eq (by simpa using hi2)]
        · have w : WFf (fun k => (((L1.setIfInBounds i (.val v)).setIfInBounds (i + 2) .unset).setIfInBounds (i + 1) .second)[k]?) := by rw [e3]; exact hWF
          exact w
      · have e1 : clearF F (i + 1) = upd F (i + 1) .unset := by simp only [clearF, hx, hc, if_false]
        have e3 : (fun k => ((L1.setIfInBounds i (.val v)).setIfInBounds (i + 1) .second)[k]?) = upd (upd (clearF F (i + 1)) i (.val v)) (i + 1) .second := by
          rw [gset _ (by simpa using hi2), g1, e1]
          funext k; simp only [upd]
          by_cases a : k = i + 1
          · simp [a]
          · by_cases b : k = i
            · simp [b]
            · simp [a, b]
        refine ⟨(L1.setIfInBounds i (.val v)).setIfInBounds (i + 1) .second, ?_, by simp [h2], ?_, e3⟩
        · show (if old.category = 2 then _ else _) = _
          rw [if_neg hc, sa_eq (by simpa using hi2)]
        · have w : WFf (fun k => ((L1.setIfInBounds i (.val v)).setIfInBounds (i + 1) .second)[k]?) := by rw [e3]; exact hWF
          exact w
theorem cat_va (ρ : Nat → Nat) (v : Value) : (va ρ v).category = v.category := by cases v <;> rfl
theorem clr_len (ls : Lv) (i : Nat) : (clr ls i).length = ls.length := by
  cases i with
  | zero => rfl
  | succ j => simp only [clr]; split <;> simp
theorem clr_get {ls : Lv} {i k : Nat} {v : Value} (h : (clr ls i)[k]? = some (some v)) : ls[k]? = some (some v) ∧ (k + 1 = i → v.category ≠ 2) := by
  cases i with
  | zero => exact ⟨h, fun q => by omega⟩
  | succ j =>
    simp only [clr] at h
    split at h
    · rename_i x e
      rw [List.getElem?_set] at h
      split at h
      · rename_i hj; subst hj; split at h <;> simp at h
      · rename_i hj; exact ⟨h, fun q => by omega⟩
    · rename_i x e
      rw [List.getElem?_set] at h
      split at h
      · rename_i hj; subst hj; split at h <;> simp at h
      · rename_i hj; exact ⟨h, fun q => by omega⟩
    · rename_i e1 e2
      refine ⟨h, fun q hc => ?_⟩
      have hk : k = j := by omega
      subst hk
      cases v <;> first | exact e1 _ h | exact e2 _ h | (exact Nat.noConfusion (Nat.succ.inj hc))
theorem store_ok {ρ : Nat → Nat} {ls ls' : Lv} {L : Array Slot} {i : Nat} {v : Value} (hL : LR ρ ls L) (hd : ∀ x, v ≠ .double x) (h : stl ls i v = some ls') : ∃ L', storeLocals L i (va ρ v) = some L' ∧ LR ρ ls' L' ∧ L'.size = L.size := by
  obtain ⟨hz, hr, hW⟩ := hL
  have hWf : WFf (fun k => L[k]?) := hW
  by_cases hc : v.category = 2
  · obtain ⟨x, rfl⟩ : ∃ x, v = .long x := by cases v <;> simp [Value.category] at hc <;> first | exact ⟨_, rfl⟩ | exact absurd rfl (hd _)
    simp only [stl] at h
    split at h
    · rename_i hi
      cases h
      obtain ⟨L', a1, a2, a3, a4⟩ := store_two hW (show i + 1 < L.size by omega) (v := va ρ (.long x)) rfl
      refine ⟨L', a1, ⟨by simp [a2, hz, clr_len], fun k w hk => ?_, a3⟩, a2⟩
      have q : L'[k]? = _ := congrFun a4 k
      rw [q]
      rw [List.getElem?_set] at hk
      split at hk
      · simp at hk
      · rename_i hk1
        rw [List.getElem?_set] at hk
        split at hk
        · rename_i hk2; subst hk2
          simp only [clr_len] at hk
          split at hk
          · cases hk; simp [upd]
          · simp at hk
        · rename_i hk2
          obtain ⟨b1, b2⟩ := clr_get hk
          have b3 := hr _ _ b1
          have b4 : clearF (fun k => L[k]?) i k = some (.val (va ρ w)) := clearF_keep hWf (fun q => hk2 q.symm) b3 (fun q => by rw [cat_va]; exact b2 q)
          have b5 := clearF_keep (wff_clear hWf i) (i := i + 1) (fun q => hk1 q.symm) b4 (fun q => absurd (Nat.succ.inj q) fun z => hk2 z.symm)
          simp only [upd, show ¬ k = i + 1 from fun q => hk1 q.symm, show ¬ k = i from fun q => hk2 q.symm, if_false]
          exact b5
    · cases h
  · have hs : stl ls i v = if i < ls.length then some ((clr ls i).set i (some v)) else none := by cases v <;> first | rfl | exact absurd rfl hc
    rw [hs] at h
    split at h
    · rename_i hi
      cases h
      obtain ⟨L', a1, a2, a3, a4⟩ := store_one hW (show i < L.size by omega) (v := va ρ v) (by rw [cat_va]; exact hc)
      refine ⟨L', a1, ⟨by simp [a2, hz, clr_len], fun k w hk => ?_, a3⟩, a2⟩
      have q : L'[k]? = _ := congrFun a4 k
      rw [q]
      rw [List.getElem?_set] at hk
      split at hk
      · rename_i hk2; subst hk2
        simp only [clr_len] at hk
        split at hk
        · cases hk; simp [upd]
        · omega
      · rename_i hk2
        obtain ⟨b1, b2⟩ := clr_get hk
        have b3 := hr _ _ b1
        have b4 : clearF (fun k => L[k]?) i k = some (.val (va ρ w)) := clearF_keep hWf (fun q => hk2 q.symm) b3 (fun q => by rw [cat_va]; exact b2 q)
        simp only [upd, show ¬ k = i from fun q => hk2 q.symm, if_false]
        exact b4
    · cases h
end Jvm.LM

namespace Jvm.LM
open Sem ClassFile Op Lib Jvm.Stand Jvm.Free Jvm.LawKit Jvm.RoadKit
section Pure
variable {p : Program} {l : Launch} {e : Env} {R : Room} {s : State} {m : MethodId} {args : Array Value} {below : List Frame} {meth : Method} {c : Code} {T : State} {locs : List Loc} {cells slots : Nat}
theorem br_eq (cd : ClassFile.Cond) (x y : Int32) (a b : Nat) : br cd x y a b = if if_icmp.holds cd x y = true then a else b := by
  cases cd <;> simp only [br]
  · by_cases h : x = y <;> simp [h, XT.ii_eq_t, XT.ii_eq_f]
  · by_cases h : x = y
    · rw [if_pos h, XT.ii_ne_f h]; rfl
    · rw [if_neg h, XT.ii_ne_t h]; rfl
  · by_cases h : x < y
    · rw [if_pos h, XT.ii_lt_t h]; rfl
    · rw [if_neg h, XT.ii_lt_f h]; rfl
  · by_cases h : x < y
    · rw [if_pos h, XT.ii_ge_f h]; rfl
    · rw [if_neg h, XT.ii_ge_t h]; rfl
  · by_cases h : y < x
    · rw [if_pos h, XT.ii_gt_t h]; rfl
    · rw [if_neg h, XT.ii_gt_f h]; rfl
  · by_cases h : y < x
    · rw [if_pos h, XT.ii_le_f h]; rfl
    · rw [if_neg h, XT.ii_le_t h]; rfl
theorem qstep_sound (X : Stand p l e R s m args below meth c T locs cells slots) (hx : p.tables.exec = Jvm.exec) {ρ : Nat → Nat} {i : Instr} {n pc pc' : Nat} {st st' : List Value}
    (h : qstep i pc st = some (pc', st')) (hd : decode c.code pc = .ok (i, n)) (hn : isSw i = true ∨ n = ilen i) {L : Array Slot} :
    ∀ target, Steps p.tables e below (T.setTop (mkF m pc' L (st'.map (va ρ)))) target → Steps p.tables e below (T.setTop (mkF m pc L (st.map (va ρ)))) target := by
  by_cases hsw : isSw i = true
  · cases i <;> first | exact absurd hsw Bool.false_ne_true | skip
    rename_i d lo hi offs
    simp only [qstep] at h
    split at h
    · rename_i x r
      split at h
      · rename_i e1
        split at h
        · rename_i e2; cases h; exact fun t q => X.tableswitchOut hx (g := mkF m pc L (.int x :: List.map (va ρ) _)) rfl rfl hd e1 e2 t q
        · cases h
      · rename_i e1
        split at h
        · rename_i o e2
          split at h
          · rename_i e3; cases h; exact fun t q => X.tableswitchIn hx (g := mkF m pc L (.int x :: List.map (va ρ) _)) rfl rfl hd e1 e2 e3 t q
          · cases h
        · cases h
    · cases h
  obtain rfl := hn.resolve_left hsw
  unfold qstep at h
  split at h
  -- constants
  · cases h; exact fun t q => XS.iconst X.here hx rfl hd q
  · cases h; exact fun t q => XS.bipush X.here hx rfl hd q
  · cases h; exact fun t q => XS.sipush X.here hx rfl hd q
  · cases h; exact fun t q => XT.lconst X.here hx rfl hd q
  -- ints
  · split at h
    · cases h; exact fun t q => XS.iadd X.here hx rfl hd rfl q
    · cases h
  · split at h
    · cases h; exact fun t q => XS.isub X.here hx rfl hd rfl q
    · cases h
  · split at h
    · cases h; exact fun t q => XS.imul X.here hx rfl hd rfl q
    · cases h
  · split at h
    · cases h; exact fun t q => XS.iand X.here hx rfl hd rfl q
    · cases h
  · split at h
    · cases h; exact fun t q => XT.ior X.here hx rfl hd rfl q
    · cases h
  · split at h
    · cases h; exact fun t q => XT.ixor X.here hx rfl hd rfl q
    · cases h
  · split at h
    · cases h; exact fun t q => XT.ishl X.here hx rfl hd rfl q
    · cases h
  · split at h
    · cases h; exact fun t q => XT.ishr X.here hx rfl hd rfl q
    · cases h
  · split at h
    · cases h; exact fun t q => XT.iushr X.here hx rfl hd rfl q
    · cases h
  · split at h
    · split at h
      · cases h
      · rename_i e1; cases h; exact fun t q => XS.idiv X.here hx rfl hd rfl e1 q
    · cases h
  · split at h
    · split at h
      · cases h
      · rename_i e1; cases h; exact fun t q => iremM X hx rfl hd rfl e1 q
    · cases h
  · split at h
    · cases h; exact fun t q => XS.ineg X.here hx rfl hd rfl q
    · cases h
  -- longs
  · split at h
    · cases h; exact fun t q => XT.ladd X.here hx rfl hd rfl q
    · cases h
  · split at h
    · cases h; exact fun t q => XT.lsub X.here hx rfl hd rfl q
    · cases h
  · split at h
    · cases h; exact fun t q => XT.lmul X.here hx rfl hd rfl q
    · cases h
  · split at h
    · cases h; exact fun t q => XT.land X.here hx rfl hd rfl q
    · cases h
  · split at h
    · cases h; exact fun t q => XT.lor X.here hx rfl hd rfl q
    · cases h
  · split at h
    · cases h; exact fun t q => XT.lxor X.here hx rfl hd rfl q
    · cases h
  · split at h
    · cases h; exact fun t q => XT.lshl X.here hx rfl hd rfl q
    · cases h
  · split at h
    · cases h; exact fun t q => XT.lshr X.here hx rfl hd rfl q
    · cases h
  · split at h
    · cases h; exact fun t q => XT.lushr X.here hx rfl hd rfl q
    · cases h
  · split at h
    · split at h
      · cases h
      · rename_i e1; cases h; exact fun t q => XT.ldiv X.here hx rfl hd rfl e1 q
    · cases h
  · split at h
    · cases h; exact fun t q => XT.lneg X.here hx rfl hd rfl q
    · cases h
  · split at h
    · cases h; exact fun t q => XT.lcmp X.here hx rfl hd rfl q
    · cases h
  · split at h
    · cases h; exact fun t q => XT.i2l X.here hx rfl hd rfl q
    · cases h
  · split at h
    · cases h; exact fun t q => XT.l2i X.here hx rfl hd rfl q
    · cases h
  -- dup, pop
  · split at h
    · cases h; exact fun t q => XS.dup X.here hx rfl hd rfl rfl q
    · cases h; exact fun t q => XS.dup X.here hx rfl hd rfl rfl q
    · cases h
  · split at h
    · cases h; exact fun t q => XT.pop X.here hx rfl hd rfl rfl q
    · cases h; exact fun t q => XT.pop X.here hx rfl hd rfl rfl q
    · cases h
  -- jumps
  · split at h
    · rename_i e1; cases h; exact fun t q => XS.goto X.here hx rfl rfl hd e1 rfl q
    · cases h
  · split at h
    · split at h
      · rename_i e1; cases h
        intro t q
        rw [br_eq] at q
        split at q
        · rename_i e2; exact XS.ifYes X.here hx rfl rfl hd rfl (by rw [if0]; exact e2) e1 rfl q
        · rename_i e2; exact XS.ifNo X.here hx rfl hd rfl (by rw [if0]; simpa using e2) q
      · cases h
    · cases h
  · split at h
    · split at h
      · rename_i e1; cases h
        intro t q
        rw [br_eq] at q
        split at q
        · rename_i e2; exact XS.icmpYes X.here hx rfl rfl hd rfl e2 e1 rfl q
        · rename_i e2; exact XS.icmpNo X.here hx rfl hd rfl (by simpa using e2) q
      · cases h
    · cases h
  · exact absurd rfl hsw
  · cases h
theorem pstep_sound (X : Stand p l e R s m args below meth c T locs cells slots) (hx : p.tables.exec = Jvm.exec) {ρ : Nat → Nat} {i : Instr} {n pc pc' : Nat} {ls ls' : Lv} {st st' : List Value}
    (h : pstep i pc ls st = some (pc', ls', st')) (hd : decode c.code pc = .ok (i, n)) (hn : isSw i = true ∨ n = ilen i) {L : Array Slot} (hL : LR ρ ls L) :
    ∃ L', LR ρ ls' L' ∧ L'.size = L.size ∧ ∀ target, Steps p.tables e below (T.setTop (mkF m pc' L' (st'.map (va ρ)))) target → Steps p.tables e below (T.setTop (mkF m pc L (st.map (va ρ)))) target := by
  by_cases hsw : isSw i = true
  · cases i <;> first | exact absurd hsw Bool.false_ne_true | skip
    simp only [pstep] at h
    split at h
    · rename_i e1; cases h; exact ⟨L, hL, rfl, qstep_sound X hx e1 hd hn⟩
    · cases h
  obtain rfl := hn.resolve_left hsw
  unfold pstep at h
  split at h
  -- loads
  · split at h
    · rename_i e1; cases h; exact ⟨L, hL, rfl, fun t q => XS.iloadN X.here hx rfl hd (hL.2.1 _ _ e1) q⟩
    · cases h
  · split at h
    · rename_i e1; cases h; exact ⟨L, hL, rfl, fun t q => XS.iload X.here hx rfl hd (hL.2.1 _ _ e1) q⟩
    · cases h
  · split at h
    · rename_i e1; cases h; exact ⟨L, hL, rfl, fun t q => XT.lloadN X.here hx rfl hd (hL.2.1 _ _ e1) q⟩
    · cases h
  · split at h
    · rename_i e1; cases h; exact ⟨L, hL, rfl, fun t q => XT.lload X.here hx rfl hd (hL.2.1 _ _ e1) q⟩
    · cases h
  · split at h
    · rename_i e1; cases h; exact ⟨L, hL, rfl, fun t q => XS.aloadN X.here hx rfl hd (hL.2.1 _ _ e1) rfl q⟩
    · cases h
  · split at h
    · rename_i e1; cases h; exact ⟨L, hL, rfl, fun t q => XS.aload X.here hx rfl hd (hL.2.1 _ _ e1) rfl q⟩
    · cases h
  -- stores
  · split at h
    · split at h
      · rename_i e1; cases h
        obtain ⟨L', a1, a2, a3⟩ := store_ok hL (fun x => by simp) e1
        exact ⟨L', a2, a3, fun t q => XS.istoreN X.here hx rfl hd rfl a1 q⟩
      · cases h
    · cases h
  · split at h
    · split at h
      · rename_i e1; cases h
        obtain ⟨L', a1, a2, a3⟩ := store_ok hL (fun x => by simp) e1
        exact ⟨L', a2, a3, fun t q => XS.istore X.here hx rfl hd rfl a1 q⟩
      · cases h
    · cases h
  · split at h
    · split at h
      · rename_i e1; cases h
        obtain ⟨L', a1, a2, a3⟩ := store_ok hL (fun x => by simp) e1
        exact ⟨L', a2, a3, fun t q => XT.lstoreN X.here hx rfl hd rfl a1 q⟩
      · cases h
    · cases h
  · split at h
    · split at h
      · rename_i e1; cases h
        obtain ⟨L', a1, a2, a3⟩ := store_ok hL (fun x => by simp) e1
        exact ⟨L', a2, a3, fun t q => XT.lstore X.here hx rfl hd rfl a1 q⟩
      · cases h
    · cases h
  · split at h
    · split at h
      · rename_i e1; cases h
        obtain ⟨L', a1, a2, a3⟩ := store_ok hL (fun x => by simp) e1
        exact ⟨L', a2, a3, fun t q => XS.astoreN X.here hx rfl hd rfl rfl a1 q⟩
      · cases h
    · cases h
  · split at h
    · split at h
      · rename_i e1; cases h
        obtain ⟨L', a1, a2, a3⟩ := store_ok hL (fun x => by simp) e1
        exact ⟨L', a2, a3, fun t q => XS.astore X.here hx rfl hd rfl rfl a1 q⟩
      · cases h
    · cases h
  · split at h
    · rename_i e0
      split at h
      · rename_i e1; cases h
        obtain ⟨L', a1, a2, a3⟩ := store_ok hL (fun x => by simp) e1
        exact ⟨L', a2, a3, fun t q => XS.iinc X.here hx rfl hd (hL.2.1 _ _ e0) a1 q⟩
      · cases h
    · cases h
  · rename_i hq
    split at h
    · rename_i e1; cases h; exact ⟨L, hL, rfl, qstep_sound X hx e1 hd hn⟩
    · cases h
end Pure
/-! the class's own machine -/
def nd : List Value → Bool
  | [] => true
  | .double _ :: _ => false
  | _ :: r => nd r
theorem nd_spec {as : List Value} (h : nd as = true) : ∀ v ∈ as, ∀ x, v ≠ .double x := by
  induction as with
  | nil => intro v hv; cases hv
  | cons w r ih =>
    intro v hv x e
    rcases List.mem_cons.mp hv with q | q
    · subst q; subst e; cases h
    · refine ih ?_ v q x e
      cases w <;> first | exact h | cases h
def layA : List Value → Lv
  | [] => []
  | .long x :: r => some (.long x) :: none :: layA r
  | v :: r => some v :: layA r
def lay (as : List Value) (n : Nat) : Lv := layA as ++ List.replicate (n - (layA as).length) none
def cats (st : List Value) : Nat := (st.map fun v => v.category).sum
def tyOf : Nat → FieldType
  | 0 => .int
  | 1 => .boolean
  | _ => .long
def atOf : Nat → ArrayType
  | 0 => .int
  | 1 => .boolean
  | _ => .long
def retOf : Nat → Option FieldType
  | 0 => none
  | 1 => some .int
  | 2 => some .boolean
  | _ => some .long
def zs (al : List (Nat × Nat)) (c : Nat) : Nat := ((al.take c).map (·.2)).sum
abbrev Rs := Option (Option Value × St)
def cret (me : Me) (st : List Value) (i : Instr) : Option (Option Value) :=
  match i with
  | .ireturn => match st with
    | [.int x] => if me.rt = 1 then some (some (.int x)) else if me.rt = 2 then some (some (.int (x &&& 1))) else none
    | _ => none
  | .lreturn => match st with
    | [.long x] => if me.rt = 3 then some (some (.long x)) else none
    | _ => none
  | .return_ => match st with
    | [] => if me.rt = 0 then some none else none
    | _ => none
  | _ => none
def isRet : Instr → Bool
  | .ireturn => true
  | .lreturn => true
  | .return_ => true
  | _ => false
def gfld (P : Cl) (x : Nat) (c : Nat) (s : St) : Option Value :=
  match asc P.fx x with
  | none => none
  | some k => match asc P.fs k with
    | none => none
    | some fe => match fe.2.2.1 with
      | 0 => some (.int (gI s 0 k))
      | 1 => some (.int (gI s 0 k))
      | 2 => some (.long (gL s 0 k))
      | j + 3 => if j < c then some (.ref (j + 1)) else none
def pfld (P : Cl) (x : Nat) (ini : Bool) (v : Value) (s : St) : Option St :=
  match asc P.fx x with
  | none => none
  | some k => match asc P.fs k with
    | none => none
    | some fe => if fe.2.2.2 = true ∧ ini = false then none else
      match fe.2.2.1, v with
      | 0, .int z => some (sI s 0 k z)
      | 1, .int z => some (sI s 0 k (z &&& 1))
      | 2, .long z => some (sL s 0 k z)
      | _, _ => none
def newF (P : Cl) (t : ArrayType) (cd : Cd) (pc c : Nat) (st : List Value) : Bool :=
  match st with
  | [.int n, .ref 0] => match fetch cd (pc + 2) with
    | some (.putfield x, 3) => match asc P.fx x with
      | some k => match asc P.fs k with
        | some fe => match P.al[c]? with
          | some (tt, N) => decide (fe.2.2.1 = c + 3 ∧ t = atOf tt ∧ 0 ≤ n.toInt ∧ n.toInt = N ∧ N < 1000000)
          | none => false
        | none => false
      | none => false
    | _ => false
  | _ => false
def lda (P : Cl) (tt c : Nat) (st : List Value) (s : St) : Option (List Value) :=
  match st with
  | .int i :: .ref (a + 1) :: r => match P.al[a]? with
    | some (t2, N) => if t2 = tt ∧ a < c then (if inb N i then some ((if tt = 2 then .long (gL s (a + 1) (ix i)) else .int (gI s (a + 1) (ix i))) :: r) else none) else none
    | none => none
  | _ => none
def sta (P : Cl) (tt c : Nat) (st : List Value) (s : St) : Option (List Value × St) :=
  match st with
  | v :: .int i :: .ref (a + 1) :: r => match P.al[a]? with
    | some (t2, N) => if t2 = tt ∧ a < c then (if inb N i then (match tt, v with
        | 0, .int z => some (r, sI s (a + 1) (ix i) z)
        | 1, .int z => some (r, sI s (a + 1) (ix i) (z &&& 1))
        | 2, .long z => some (r, sL s (a + 1) (ix i) z)
        | _, _ => none) else none) else none
    | none => none
  | _ => none
def cstep {α : Type} (P : Cl) (mi : Nat) (me : Me) (rt : Option Value → St → Option α) (cl : Nat → Nat → List Value → St → Rs) (k : Nat → Nat → Lv → List Value → St → Option α) (i : Instr) (c pc : Nat) (ls : Lv) (st : List Value) (s : St) : Option α :=
  match i with
  | .getfield x => match st with
    | .ref 0 :: r => (match gfld P x c s with | some v => k c (pc + 3) ls (v :: r) s | none => none)
    | _ => none
  | .putfield x => match st with
    | v :: .ref 0 :: r => (match pfld P x (mi == 0) v s with | some s' => k c (pc + 3) ls r s' | none => none)
    | _ => none
  | .iaload => match lda P 0 c st s with | some st' => k c (pc + 1) ls st' s | none => none
  | .baload => match lda P 1 c st s with | some st' => k c (pc + 1) ls st' s | none => none
  | .laload => match lda P 2 c st s with | some st' => k c (pc + 1) ls st' s | none => none
  | .iastore => match sta P 0 c st s with | some (st', s') => k c (pc + 1) ls st' s' | none => none
  | .bastore => match sta P 1 c st s with | some (st', s') => k c (pc + 1) ls st' s' | none => none
  | .lastore => match sta P 2 c st s with | some (st', s') => k c (pc + 1) ls st' s' | none => none
  | .newarray t => if mi = 0 ∧ newF P t me.cd pc c st = true then k (c + 1) (pc + 5) ls [] s else none
  | .ldc x => match asc P.kx x with | some (.int z) => k c (pc + 2) ls (.int z :: st) s | _ => none
  | .ldc2_w x => match asc P.kx x with | some (.long z) => k c (pc + 3) ls (.long z :: st) s | _ => none
  | .invokespecial x => match st with
    | .ref 0 :: r => if x = P.oi ∧ 1 ≤ me.rf ∧ cats r + 12 ≤ me.rl then k c (pc + 3) ls r s else none
    | _ => none
  | .invokevirtual x => match asc P.mx x with
    | none => none
    | some m' => match asc P.ms m' with
      | none => none
      | some me' => match st.drop me'.na with
        | .ref 0 :: r => if m' ≠ 0 ∧ me'.rf + 1 ≤ me.rf ∧ cats r + (me'.ml + 11) + me'.rl ≤ me.rl ∧ nd (st.take me'.na) = true then
            (match cl m' c (.ref 0 :: (st.take me'.na).reverse) s with
             | some (none, s') => k c (pc + 3) ls r s'
             | some (some v, s') => k c (pc + 3) ls (v :: r) s'
             | none => none) else none
        | _ => none
  | i => if isRet i = true then (if mi = 0 ∧ c ≠ P.al.length then none else match cret me st i with | some v => rt v s | none => none)
    else match pstep i pc ls st with | some (pc', ls', st') => k c pc' ls' st' s | none => none
def cexec (P : Cl) : Nat → Nat → Me → Nat → Nat → Lv → List Value → St → Rs
  | 0, _, _, _, _, _, _, _ => none
  | f + 1, mi, me, c, pc, ls, st, s => match fetch me.cd pc with
    | none => none
    | some (i, _) => cstep P mi me (fun v s => some (v, s)) (fun m' c as s => match asc P.ms m' with | some me' => (if (layA as).length ≤ me'.ml then cexec P f m' me' c 0 (lay as me'.ml) [] s else none) | none => none) (cexec P f mi me) i c pc ls st s
def ccall (P : Cl) (f m' c : Nat) (as : List Value) (s : St) : Rs := match asc P.ms m' with | some me' => (if (layA as).length ≤ me'.ml then cexec P f m' me' c 0 (lay as me'.ml) [] s else none) | none => none
end Jvm.LM

namespace Jvm.LM
open Sem ClassFile Op Lib Jvm.Stand Jvm.Free Jvm.LawKit Jvm.RoadKit
/-! how the machine's state stands in the heap -/
theorem adr_ne (a j : Nat) : a + (j + 1) ≠ a := by omega
theorem adr_ne' (a j : Nat) : a ≠ a + (j + 1) := by omega
theorem adr_ne2 (a : Nat) {j k : Nat} (h : j ≠ k) : a + (j + 1) ≠ a + (k + 1) := by omega
def Fval (adr c : Nat) (s : St) (k : Nat) (fe : Fe) : Value :=
  match fe.2.2.1 with
  | 0 => .int (gI s 0 k)
  | 1 => .int (gI s 0 k)
  | 2 => .long (gL s 0 k)
  | j + 3 => if j < c then .ref (adr + (j + 1)) else .null
def elv (tt : Nat) (s : St) (j i : Nat) : Value := if tt = 2 then .long (gL s j i) else .int (gI s j i)
def ARep (Z : State) (h : Heap) (a tt N : Nat) (s : St) (j : Nat) : Prop :=
  ∃ cl : Cell, Arr Z h a cl (tyOf tt) ∧ cl.slots.size = N ∧ ∀ i, i < N → cl.slots[i]? = some (elv tt s j i)
def HRep (P : Cl) (Z : State) (h : Heap) (adr c : Nat) (s : St) : Prop :=
  Exa Z h adr P.nm ∧ (∀ k fe, asc P.fs k = some fe → Fld Z h adr P.nm fe.1 fe.2.1 (Fval adr c s k fe)) ∧
  (∀ (j tt N : Nat), P.al[j]? = some (tt, N) → j < c → ARep Z h (adr + (j + 1)) tt N s (j + 1)) ∧
  (∀ j i, c < j → gI s j i = 0 ∧ gL s j i = 0) ∧ c ≤ P.al.length
def fkTy (P : Cl) : Nat → FieldType
  | 0 => .int
  | 1 => .boolean
  | 2 => .long
  | j + 3 => .array (tyOf ((P.al[j]?.map (·.1)).getD 0))
def yOf (P : Cl) (me : Me) : MethodName := ⟨P.nm, me.nm, me.ds⟩
def LinkC (P : Cl) (Z : State) (a0 : Array Value) : Prop :=
  ((∃ nF, (Cond.instantiable P.nm nF).before a0 Z = true) ∧ (Cond.initialized P.nm).before a0 Z = true) ∧
  (∀ x k, asc P.fx x = some k → ∀ fe, asc P.fs k = some fe → (Cond.fieldLink P.nm x P.nm fe.1 fe.2.1).before a0 Z = true) ∧
  (∀ k fe, asc P.fs k = some fe → (if fe.2.2.2 = true then Cond.laysFinal P.nm P.nm fe.1 fe.2.1 else Cond.lays P.nm P.nm fe.1 fe.2.1).before a0 Z = true) ∧
  (∀ k fe, asc P.fs k = some fe → parseFieldDescriptor fe.2.1 = some (fkTy P fe.2.2.1)) ∧
  (∀ k k' fe fe', asc P.fs k = some fe → asc P.fs k' = some fe' → k ≠ k' → fe.1 ≠ fe'.1 ∧ (3 ≤ fe.2.2.1 → fe.2.2.1 ≠ fe'.2.2.1)) ∧
  (∀ (j tt N : Nat), P.al[j]? = some (tt, N) → tt ≤ 2 ∧ (Cond.arrayClass (tyOf tt)).before a0 Z = true) ∧
  (∀ x v, asc P.kx x = some v → match v with
    | .int z => (Cond.constant P.nm x z).before a0 Z = true
    | .long z => (Cond.constantLong P.nm x z).before a0 Z = true
    | _ => True) ∧
  ((Cond.methodLink P.nm P.oi Lib.objectInit).before a0 Z = true ∧ (Cond.instanceMethod Lib.objectInit).before a0 Z = true ∧ (Cond.code Lib.objectInit ⟨#[0xb1]⟩ 1 none).before a0 Z = true) ∧
  (∀ mi me, asc P.ms mi = some me → ∃ (bytes : ByteArray) (ps : List FieldType), (Cond.code (yOf P me) bytes me.ml (retOf me.rt)).before a0 Z = true ∧
    (∀ pc i n, fetch me.cd pc = some (i, n) → decode bytes pc = .ok (i, n) ∧ (isSw i = true ∨ n = ilen i)) ∧ parseMethodDescriptor me.ds = some ⟨ps, retOf me.rt⟩ ∧ ps.length = me.na) ∧
  (∀ x mi, asc P.mx x = some mi → ∀ me, asc P.ms mi = some me → (Cond.methodLink P.nm x (yOf P me)).before a0 Z = true ∧ (Cond.instanceMethod (yOf P me)).before a0 Z = true ∧
    ((Cond.privateMethod (yOf P me)).before a0 Z = true ∨ ((Cond.declares (yOf P me)).before a0 Z = true ∧ (Cond.selects P.nm (yOf P me) (yOf P me)).before a0 Z = true))) ∧
  plainName P.nm = true ∧ (P.nm ≠ "java/lang/invoke/MethodHandle" ∧ P.nm ≠ "java/lang/invoke/VarHandle") ∧ (∀ me, asc P.ms 0 = some me → me.nm = "<init>")
theorem gI_sI (s : St) (c j : Nat) (v : Int32) (a b : Nat) : gI (sI s c j v) a b = if a = c ∧ b = j then v else gI s a b := rfl
theorem gL_sI (s : St) (c j : Nat) (v : Int32) (a b : Nat) : gL (sI s c j v) a b = gL s a b := rfl
theorem gI_sL (s : St) (c j : Nat) (v : Int64) (a b : Nat) : gI (sL s c j v) a b = gI s a b := rfl
theorem gL_sL (s : St) (c j : Nat) (v : Int64) (a b : Nat) : gL (sL s c j v) a b = if a = c ∧ b = j then v else gL s a b := rfl
theorem laid_of {P : Cl} {Z : State} {a0 : Array Value} (LK : LinkC P Z a0) {k : Nat} {fe : Fe} (hk : asc P.fs k = some fe) : Laid Z a0 P.nm P.nm fe.1 fe.2.1 := by
  have q := LK.2.2.1 k fe hk
  split at q
  · exact Or.inr q
  · exact Or.inl q
/-- a heap that is alike where the object lies -/
theorem HRep.congr {P : Cl} {Z : State} {h h' : Heap} {adr c : Nat} {s : St} (H : HRep P Z h adr c s) (e : ∀ x, adr ≤ x → x < adr + 1 + P.al.length → h'[x]? = h[x]?) : HRep P Z h' adr c s := by
  obtain ⟨h1, h2, h3, h4, h5⟩ := H
  have ea : h'[adr]? = h[adr]? := e adr (Nat.le_refl _) (by omega)
  refine ⟨?_, fun k fe hk => ?_, fun j tt N hj hc => ?_, h4, h5⟩
  · obtain ⟨cell, k, q1, r⟩ := h1; exact ⟨cell, k, by rw [ea]; exact q1, r⟩
  · obtain ⟨cell, cf, k, i, f, q1, r⟩ := h2 k fe hk; exact ⟨cell, cf, k, i, f, by rw [ea]; exact q1, r⟩
  · obtain ⟨cl, ⟨q1, q2⟩, q3⟩ := h3 j tt N hj hc
    exact ⟨cl, ⟨by rw [e _ (by omega) (by omega)]; exact q1, q2⟩, q3⟩
theorem HRep.putFld {P : Cl} {Z : State} {a0 : Array Value} (LK : LinkC P Z a0) {h h' : Heap} {adr c k : Nat} {fe : Fe} {s s' : St} {v : Value} (H : HRep P Z h adr c s) (hk : asc P.fs k = some fe)
    (W : Wr h h' adr (RoadKit.slotOf Z P.nm fe.1 fe.2.1) v) (hv : v = Fval adr c s' k fe) (hI : ∀ a b, (a ≠ 0 ∨ b ≠ k) → gI s' a b = gI s a b ∧ gL s' a b = gL s a b) : HRep P Z h' adr c s' := by
  obtain ⟨h1, h2, h3, h4, h5⟩ := H
  refine ⟨h1.wr W, fun k2 fe2 hk2 => ?_, fun j tt N hj hc => ?_, fun j i hj => ?_, h5⟩
  · by_cases e : k2 = k
    · subst e; cases hk.symm.trans hk2
      rw [← hv]; exact (h2 _ _ hk).same W
    · have hne := (LK.2.2.2.2.1 _ _ _ _ hk2 hk e).1
      have q := (h2 _ _ hk2).other W (Or.inr (slot_ne (laid_of LK hk2) (laid_of LK hk) hne (LK.2.2.2.1 _ _ hk2) (LK.2.2.2.1 _ _ hk)))
      have e2 : Fval adr c s' k2 fe2 = Fval adr c s k2 fe2 := by
        have := hI 0 k2 (Or.inr e)
        simp only [Fval]; split <;> simp [this.1, this.2]
      rw [e2]; exact q
  · obtain ⟨cl, q1, q2, q3⟩ := h3 j tt N hj hc
    refine ⟨cl, q1.other W (adr_ne _ _), q2, fun i hi => ?_⟩
    have := hI (j + 1) i (Or.inl (by omega))
    rw [q3 i hi]; simp only [elv, this.1, this.2]
  · have := hI j i (Or.inl (by omega))
    rw [this.1, this.2]; exact h4 j i hj
theorem HRep.putArr {P : Cl} {Z : State} {h h' : Heap} {adr c a tt N n : Nat} {s s' : St} {v : Value} (H : HRep P Z h adr c s) (ha : P.al[a]? = some (tt, N)) (hac : a < c) (hn : n < N)
    (W : Wr h h' (adr + (a + 1)) n v) (hv : v = elv tt s' (a + 1) n) (hI : ∀ x y, (x ≠ a + 1 ∨ y ≠ n) → gI s' x y = gI s x y ∧ gL s' x y = gL s x y) : HRep P Z h' adr c s' := by
  obtain ⟨h1, h2, h3, h4, h5⟩ := H
  refine ⟨h1.wr W, fun k fe hk => ?_, fun j tt2 N2 hj hc => ?_, fun j i hj => ?_, h5⟩
  · have q := (h2 _ _ hk).other W (Or.inl (adr_ne' _ _))
    have e2 : Fval adr c s' k fe = Fval adr c s k fe := by
      have := hI 0 k (Or.inl (by omega))
      simp only [Fval]; split <;> simp [this.1, this.2]
    rw [e2]; exact q
  · obtain ⟨cl, q1, q2, q3⟩ := h3 j tt2 N2 hj hc
    by_cases e : j = a
    · subst e; cases ha.symm.trans hj
      refine ⟨cl.setSlot n v, q1.same W, by rw [sz_set]; exact q2, fun i hi => ?_⟩
      by_cases ei : i = n
      · subst ei; rw [← hv]; simp [Cell.setSlot, q2, hi]
      · have := hI (j + 1) i (Or.inr ei)
        have q4 := q3 i hi
        simp only [elv, this.1, this.2] at q4 ⊢
        simp only [Cell.setSlot]
        rw [Array.getElem?_setIfInBounds_ne (fun q => ei q.symm)]; exact q4
    · refine ⟨cl, q1.other W (adr_ne2 _ e), q2, fun i hi => ?_⟩
      have := hI (j + 1) i (Or.inl (by omega))
      rw [q3 i hi]; simp only [elv, this.1, this.2]
  · have := hI j i (Or.inl (by omega))
    rw [this.1, this.2]; exact h4 j i hj
theorem HRep.newArr {P : Cl} {Z : State} {a0 : Array Value} (LK : LinkC P Z a0) {h h1 h2 : Heap} {adr c k tt N : Nat} {fe : Fe} {s : St} {n : Int32} {cA : ClassId} (H : HRep P Z h adr c s) (hk : asc P.fs k = some fe) (hkd : fe.2.2.1 = c + 3)
    (ha : P.al[c]? = some (tt, N)) (hn0 : 0 ≤ n.toInt) (hn : n.toInt = N) (hsz : h.size = adr + 1 + c) (E : Ext h h1) (A : Arr Z h1 h.size (newA cA (tyOf tt) n) (tyOf tt)) (W : Wr h1 h2 adr (RoadKit.slotOf Z P.nm fe.1 fe.2.1) (.ref h.size)) : HRep P Z h2 adr (c + 1) s := by
  obtain ⟨g1, g2, g3, g4, g5⟩ := H
  have hc : c < P.al.length := (List.getElem?_eq_some_iff.mp ha).1
  have hNn : n.toNatClampNeg = N := by simp only [Int32.toNatClampNeg]; omega
  have htt := (LK.2.2.2.2.2.1 _ _ _ ha).1
  refine ⟨(g1.ext E).wr W, fun k2 fe2 hk2 => ?_, fun j tt2 N2 hj hjc => ?_, fun j i hj => g4 j i (by omega), hc⟩
  · by_cases e : k2 = k
    · subst e; cases hk.symm.trans hk2
      have q := ((g2 _ _ hk).ext E).same W
      have e2 : Fval adr (c + 1) s k2 fe = .ref h.size := by simp only [Fval, hkd]; rw [if_pos (Nat.lt_succ_self c), hsz]; exact congrArg Value.ref (show adr + (c + 1) = adr + 1 + c by omega)
      rw [e2]; exact q
    · have hne := LK.2.2.2.2.1 _ _ _ _ hk2 hk e
      have q := ((g2 _ _ hk2).ext E).other W (Or.inr (slot_ne (laid_of LK hk2) (laid_of LK hk) hne.1 (LK.2.2.2.1 _ _ hk2) (LK.2.2.2.1 _ _ hk)))
      have e2 : Fval adr (c + 1) s k2 fe2 = Fval adr c s k2 fe2 := by
        simp only [Fval]; split
        · rfl
        · rfl
        · rfl
        · rename_i j hj
          have : j ≠ c := fun q => (hne.2 (by rw [hj]; omega)) (by rw [hj, hkd, q])
          by_cases b : j < c
          · rw [if_pos b, if_pos (by omega)]
          · rw [if_neg b, if_neg (by omega)]
      rw [e2]; exact q
  · by_cases e : j = c
    · subst e; cases ha.symm.trans hj
      have hA : Arr Z h2 h.size (newA cA (tyOf tt) n) (tyOf tt) := A.other W (show h.size ≠ adr by omega)
      refine ⟨newA cA (tyOf tt) n, by rw [show adr + (j + 1) = h.size by omega]; exact hA, by rw [sz_new]; exact hNn, fun i hi => ?_⟩
      have z := g4 (j + 1) i (by omega)
      simp only [newA, hNn, elv, z.1, z.2]
      rw [Array.getElem?_replicate, if_pos hi]
      have : tt = 0 ∨ tt = 1 ∨ tt = 2 := by omega
      rcases this with rfl | rfl | rfl <;> rfl
    · obtain ⟨cl, q1, q2, q3⟩ := g3 j tt2 N2 hj (by omega)
      exact ⟨cl, (q1.ext E).other W (adr_ne _ _), q2, q3⟩
/-- outside the object nothing moves -/
def Kp (h0 h : Heap) (adr n : Nat) : Prop := ∀ x, (x < adr ∨ adr + 1 + n ≤ x) → h[x]? = h0[x]?
theorem Kp.wr {h0 h h' : Heap} {adr n a sl : Nat} {v : Value} (K : Kp h0 h adr n) (W : Wr h h' a sl v) (h1 : adr ≤ a) (h2 : a < adr + 1 + n) : Kp h0 h' adr n := fun x hx => by
  obtain ⟨cell, q1, q2, q3, rfl⟩ := W
  rw [Array.getElem?_setIfInBounds_ne (by omega)]; exact K x hx
theorem Kp.ext {h0 h h' : Heap} {adr n : Nat} (K : Kp h0 h adr n) (E : Ext h h') (h1 : h'.size ≤ adr + 1 + n) (h2 : adr ≤ h.size) : Kp h0 h' adr n := fun x hx => by
  rw [← K x hx]
  by_cases b : x < h.size
  · obtain ⟨c, hc⟩ : ∃ c, h[x]? = some c := ⟨h[x], Array.getElem?_eq_getElem b⟩
    rw [hc]; exact E.2 _ _ hc
  · rw [Array.getElem?_eq_none (by omega), Array.getElem?_eq_none (by omega)]
theorem Kp.trans {h0 h h' : Heap} {adr n : Nat} (K : Kp h0 h adr n) (K' : Kp h h' adr n) : Kp h0 h' adr n := fun x hx => (K' x hx).trans (K x hx)
def cRoom (P : Cl) (mi : Nat) (me : Me) : Room := { frames := me.rf, cells := if mi = 0 then P.al.length else 0, slots := if mi = 0 then zs P.al P.al.length else 0, locals := me.rl }
def QC (P : Cl) (Z : State) (n0 adr mi c : Nat) (w : Option Value) (s' : St) (h0 : Heap) (v : Option Value) (h : Heap) (L : List Loc) : Prop :=
  (v = w ∧ ∀ ρ, v.toList.map (va ρ) = v.toList) ∧ Fr n0 L ∧ HRep P Z h adr (if mi = 0 then P.al.length else c) s' ∧ Kp h0 h adr P.al.length ∧ h.size = (if mi = 0 then adr + 1 + P.al.length else h0.size)
/-- the run from S ends, and so -/
def Don (p : Program) (e : Env) (below : List Frame) (s₀ : State) (rm : Room) (Q : Option Value → Heap → List Loc → Prop) (S : State) : Prop :=
  ∃ s₂ o, Steps p.tables e below S s₂ ∧ s₂.status = .running ∧ Ended s₂ below o ∧ ∃ v L, o = .returned v ∧ Q v s₂.heap L ∧ FrameEnd s₀ o s₂ L rm.cells rm.slots
theorem Don.step {p : Program} {e : Env} {below : List Frame} {s₀ : State} {rm : Room} {Q : Option Value → Heap → List Loc → Prop} {S S' : State} (h : ∀ t, Steps p.tables e below S' t → Steps p.tables e below S t) (D : Don p e below s₀ rm Q S') : Don p e below s₀ rm Q S := by
  obtain ⟨s₂, o, h1, h2⟩ := D; exact ⟨s₂, o, h _ h1, h2⟩
def Inv (P : Cl) (Z : State) (n0 adr mi c : Nat) (s : St) (h0 h : Heap) (locs : List Loc) : Prop :=
  HRep P Z h adr c s ∧ Fr n0 locs ∧ Kp h0 h adr P.al.length ∧ h.size = (if mi = 0 then adr + 1 + c else h0.size)
def co (mi c : Nat) : Nat := if mi = 0 then c else 0
def zo (P : Cl) (mi c : Nat) : Nat := if mi = 0 then zs P.al c else 0
/-- what the walk of a body is to show, at a given fuel -/
def CW (P : Cl) (Z : State) (n0 adr f mi : Nat) (me : Me) : Prop :=
  ∀ (p : Program) (l : Launch) (e : Env) (s₀ : State) (m : MethodId) (args : Array Value) (below : List Frame) (meth : Method) (cd : Code) (T : State) (locs : List Loc) (h0 : Heap) (c pc : Nat) (ls : Lv) (st : List Value) (s : St) (v : Option Value) (s' : St) (L : Array Slot),
    p.tables.exec = Jvm.exec → Z.Warmed39 s₀.vm → s₀.vm.findClass P.nm = some m.cls → meth.name = me.nm → meth.sig.returnType = retOf me.rt → cd.maxLocals = me.ml → meth.locks = false → (mi = 0 → s₀.heap.size = adr + 1) →
    (∀ pc i n, fetch me.cd pc = some (i, n) → decode cd.code pc = .ok (i, n) ∧ (isSw i = true ∨ n = ilen i)) →
    cexec P f mi me c pc ls st s = some (v, s') →
    Stand p l e (cRoom P mi me) s₀ m args below meth cd T locs (co mi c) (zo P mi c) →
    Inv P Z n0 adr mi c s h0 T.heap locs → LR (adr + ·) ls L → ls.length = me.ml →
    Don p e below s₀ (cRoom P mi me) (QC P Z n0 adr mi c v s' h0) (T.setTop (mkF m pc L (st.map (va (adr + ·)))))
theorem zs_mono (al : List (Nat × Nat)) {a b : Nat} (h : a ≤ b) : zs al a ≤ zs al b := by
  obtain ⟨d, rfl⟩ := Nat.le.dest h
  simp only [zs]
  rw [List.take_add, List.map_append, List.sum_append]; omega
theorem zs_succ (al : List (Nat × Nat)) {c tt N : Nat} (h : al[c]? = some (tt, N)) : zs al (c + 1) = zs al c + N := by
  simp only [zs, List.take_add_one, h]; simp
theorem zs_le (al : List (Nat × Nat)) (a : Nat) : zs al a ≤ zs al al.length := by
  by_cases h : a ≤ al.length
  · exact zs_mono al h
  · simp only [zs]; rw [List.take_of_length_le (by omega), List.take_of_length_le (Nat.le_refl _)]
    exact Nat.le_refl _
theorem narrow_I (z : Int32) : narrow .int (.int z) = .int z := rfl
theorem inb_not {n : Nat} {i : Int32} (h : inb n i) : ¬ (i < 0 ∨ n ≤ i.toNatClampNeg) := by
  intro q
  simp only [Int32.lt_iff_toInt_lt, Int32.toNatClampNeg, Int32.reduceToInt] at q
  have := h.1; have := h.2
  omega
theorem inb_ix {n : Nat} {i : Int32} (h : inb n i) : ix i < n := by
  have := h.1; have := h.2
  simp only [ix, Int32.toNatClampNeg]; omega
end Jvm.LM

namespace Jvm.LM
open Sem ClassFile Op Lib Jvm.Stand Jvm.Free Jvm.LawKit Jvm.RoadKit
/-! entering a method -/
def slA : List Value → List Slot
  | [] => []
  | v :: r => if v.category = 2 then .val v :: .second :: slA r else .val v :: slA r
theorem foldl_slA (as : List Value) (acc : Array Slot) : as.foldl (fun acc v => if v.category = 2 then (acc.push (.val v)).push .second else acc.push (.val v)) acc = acc ++ (slA as).toArray := by
  induction as generalizing acc with
  | nil => simp [slA]
  | cons v r ih =>
    rw [List.foldl_cons, ih]
    simp only [slA]
    split <;> simp
theorem al_eq (args : Array Value) (n : Nat) : argsToLocals args n = (let filled := args.foldl (init := #[]) fun acc v => if v.category = 2 then (acc.push (.val v)).push .second else acc.push (.val v); filled ++ Array.replicate (n - filled.size) .unset) := rfl
theorem atl_eq (as : List Value) (n : Nat) : argsToLocals as.toArray n = (slA as ++ List.replicate (n - (slA as).length) Slot.unset).toArray := by
  rw [al_eq]
  have : Array.foldl (fun acc v => if v.category = 2 then (acc.push (Slot.val v)).push .second else acc.push (.val v)) #[] as.toArray = (slA as).toArray := by
    rw [List.foldl_toArray, foldl_slA]; simp
  simp only [this]
  simp
theorem wfl_one {x : Slot} {l : List Slot} (h : WFf (fun k => l[k]?)) (hx : x ≠ .second) (hc : ∀ v, x = .val v → v.category ≠ 2) : WFf (fun k => (x :: l)[k]?) := by
  obtain ⟨h1, h2, h3⟩ := h
  refine ⟨fun k v hk hv => ?_, fun k hk => ?_, ?_⟩
  · cases k with
    | zero => simp at hk; exact absurd hv (hc v hk)
    | succ k => simp at hk ⊢; exact h1 k v hk hv
  · cases k with
    | zero => simp at hk; exact absurd (by simpa using hk) h3
    | succ k => simp at hk ⊢; exact h2 k (by simpa using hk)
  · simpa using hx
theorem wfl_two {v : Value} {l : List Slot} (h : WFf (fun k => l[k]?)) (hc : v.category = 2) : WFf (fun k => (Slot.val v :: .second :: l)[k]?) := by
  obtain ⟨h1, h2, h3⟩ := h
  refine ⟨fun k w hk hv => ?_, fun k hk => ?_, by simp⟩
  · match k with
    | 0 => simp
    | 1 => simp at hk
    | k + 2 => simp at hk ⊢; exact h1 k w hk hv
  · match k with
    | 0 => exact ⟨v, by simp, hc⟩
    | 1 => exact absurd (by simpa using hk) h3
    | k + 2 => simp at hk ⊢; exact h2 k (by simpa using hk)
theorem wfl_rep (n : Nat) : WFf (fun k => (List.replicate n Slot.unset)[k]?) := by
  refine ⟨fun k v hk _ => ?_, fun k hk => ?_, ?_⟩
  · simp [List.getElem?_replicate] at hk
  · simp [List.getElem?_replicate] at hk
  · simp [List.getElem?_replicate]
theorem wfl_slA (as : List Value) (r : List Slot) (h : WFf (fun k => r[k]?)) : WFf (fun k => (slA as ++ r)[k]?) := by
  induction as with
  | nil => simpa [slA] using h
  | cons v t ih =>
    simp only [slA]
    split
    · rename_i hc; exact wfl_two ih hc
    · rename_i hc; exact wfl_one ih (by simp) (fun w hw => by cases hw; exact hc)
theorem slA_len (ρ : Nat → Nat) (as : List Value) (hd : ∀ v ∈ as, ∀ x, v ≠ .double x) : (slA (as.map (va ρ))).length = (layA as).length := by
  induction as with
  | nil => rfl
  | cons v t ih =>
    have ih := ih fun w hw => hd w (List.mem_cons_of_mem _ hw)
    cases v <;> simp [slA, layA, va, Value.category, ih]
    exact absurd rfl (hd _ (List.mem_cons_self ..) _)
theorem layA_get {ρ : Nat → Nat} {as : List Value} (hd : ∀ v ∈ as, ∀ x, v ≠ .double x) {k : Nat} {w : Value} (h : (layA as)[k]? = some (some w)) : (slA (as.map (va ρ)))[k]? = some (.val (va ρ w)) := by
  induction as generalizing k with
  | nil => simp [layA] at h
  | cons v t ih =>
    have ih' := fun {k} => ih (k := k) fun w hw => hd w (List.mem_cons_of_mem _ hw)
    cases v
    case long x =>
      simp only [layA] at h
      match k with
      | 0 => simp at h; subst h; simp [slA, va, Value.category]
      | 1 => simp at h
      | k + 2 => simp at h; simpa [slA, va, Value.category] using ih' h
    case double x => exact absurd rfl (hd _ (List.mem_cons_self ..) _)
    all_goals
      simp only [layA] at h
      match k with
      | 0 => simp at h; subst h; simp [slA, va, Value.category]
      | k + 1 => simp at h; simpa [slA, va, Value.category] using ih' h
theorem lay_LR {ρ : Nat → Nat} {as : List Value} (hd : ∀ v ∈ as, ∀ x, v ≠ .double x) {n : Nat} (hn : (layA as).length ≤ n) : LR ρ (lay as n) (argsToLocals (as.map (va ρ)).toArray n) := by
  rw [atl_eq]
  have hl := slA_len ρ as hd
  refine ⟨by simp [lay, hl], fun k w hk => ?_, ?_⟩
  · simp only [lay] at hk
    rw [List.getElem?_append] at hk
    split at hk
    · have := layA_get (ρ := ρ) hd hk
      rw [List.getElem?_toArray, List.getElem?_append_left (by omega)]; exact this
    · simp [List.getElem?_replicate] at hk
  · have := wfl_slA (as.map (va ρ)) (List.replicate (n - (slA (as.map (va ρ))).length) Slot.unset) (wfl_rep _)
    have q : WFf (fun k => ((slA (as.map (va ρ)) ++ List.replicate (n - (slA (as.map (va ρ))).length) Slot.unset).toArray)[k]?) := by
      simpa using this
    exact q
theorem lay_len {as : List Value} {n : Nat} (hn : (layA as).length ≤ n) : (lay as n).length = n := by simp [lay]; omega
section Call
variable {p : Program} {l : Launch} {e : Env} {R : Room} {s : State} {m : MethodId} {args : Array Value} {below : List Frame} {meth : Method} {c : Code} {T : State} {locs : List Loc} {cells slots : Nat}
/-- a private method of a class that is no interface -/
theorem privCall (X : Stand p l e R s m args below meth c T locs cells slots) (hexec : p.tables.exec = Jvm.exec) {own : String} {index : Nat} {y : MethodName} {bytes : ByteArray} {maxL nF : Nat} {ret : Option FieldType}
    (hown : s.vm.findClass own = some m.cls) (hlink : (Cond.methodLink own index y).before args s = true) (hinst : (Cond.instanceMethod y).before args s = true) (hi : (Cond.instantiable y.cls nF).before args s = true)
    (hpriv : s.PrivateAt y) (hcode : (Cond.code y bytes maxL ret).before args s = true) (hy : y.cls ≠ "java/lang/invoke/MethodHandle" ∧ y.cls ≠ "java/lang/invoke/VarHandle")
    {W : Nat} {Pre : Free.Pt → Array Value → Prop} {Post : Free.Pt → Array Value → Option Value → Free.Pt → Prop} (hK : Free.Back l R p e below s args y 3 W Pre Post)
    {g : JFrame} (hg : g.method = m) (hsize : g.locals.size = c.maxLocals) {a : Addr} {cell : Cell} (hcell : T.heap[a]? = some cell) (hobj : ∀ q, cell.vm ≠ .statics q)
    {argsL rest : List Value} (hlen : ∀ sig, parseMethodDescriptor y.desc = some sig → argsL.length = sig.parameters.length)
    (hstack : g.stack = argsL.reverse ++ .ref a :: rest) (hW : 2 * g.monitorRoom + (rest.map fun v => v.category).sum ≤ W) (hdg : decode c.code g.pc = .ok (.invokevirtual index, 3))
    (hpre : ∀ vm₁, s.WarmedH vm₁ → Pre ⟨T.setVm vm₁, locs, cells, slots⟩ (.ref a :: argsL).toArray) :
    ∃ (v : Option Value) (vm₁ : Vm) (B : Free.Pt), s.WarmedH vm₁ ∧ Stand p l e R s m args below meth c B.U B.locs B.cells B.slots ∧ Post ⟨T.setVm vm₁, locs, cells, slots⟩ (.ref a :: argsL).toArray v B ∧
      Steps p.tables e below (T.setTop g) (B.U.setTop { g with pc := g.pc + 3, stack := v.toList ++ rest }) := by
  obtain ⟨mk, mM, hnamed, hmM, hst, hab⟩ := Cond.instanceMethod_spec hinst
  obtain ⟨mM', cM, hmM', -, -, -, -, -, -, hsig⟩ := Cond.code_spec hnamed hcode
  cases hmM.symm.trans hmM'
  obtain ⟨cc, kk, i1, i2, -, i4, -⟩ := Cond.instantiable_spec hi
  cases (findClass_of_methodNamed hnamed).symm.trans i1
  have hni : kk.isInterface = false := by
    cases q : kk.isInterface
    · rfl
    · rw [q] at i4; simp at i4
  have hsel : selectMethod e.platform s.vm cell.cls mk = .method mk := selectMethod_private hmM (hpriv mk mM hnamed hmM)
  obtain ⟨vm₁, X₁, hstep⟩ := X.invokevirtual hexec hown hlink hnamed hmM hst i2 hni hy hcell hobj hsel hmM hab i2 hni (g := g) hg (hlen _ hsig) hstack hdg
  obtain ⟨v, B, X', hpost, hs⟩ := hK m meth c ⟨T.setVm vm₁, locs, cells, slots⟩ { g with stack := rest } (.invokevirtual index) mk (.ref a :: argsL).toArray X₁ hg hsize hdg hW (X₁.named hnamed) (hpre vm₁ X₁.warmed)
  exact ⟨v, vm₁, B, X₁.warmed, X', hpost, hstep _ fun acts => by rw [doInvoke_state]; exact hs⟩
end Call
theorem cats_va (ρ : Nat → Nat) (st : List Value) : ((st.map (va ρ)).map fun v => v.category).sum = cats st := by
  simp only [cats, List.map_map]; congr 1; exact List.map_congr_left fun v _ => cat_va ρ v
/-- what a method of the class keeps, as a contract, from its walk -/
theorem met_of_CW {P : Cl} {Z : State} {a0 : Array Value} (LK : LinkC P Z a0) {n0 adr f mi : Nat} {me : Me} (hme : asc P.ms mi = some me) (hW : CW P Z n0 adr f mi me) (l : Launch) {bytes : ByteArray}
    (hdec : ∀ pc i n, fetch me.cd pc = some (i, n) → decode bytes pc = .ok (i, n) ∧ (isSw i = true ∨ n = ilen i))
    {as : List Value} (hd : ∀ v ∈ as, ∀ x, v ≠ .double x) (hlen : (layA as).length ≤ me.ml) {c : Nat} {s s' : St} {v : Option Value} {h : Heap} (hr : cexec P f mi me c 0 (lay as me.ml) [] s = some (v, s')) (hc : mi = 0 → c = 0)
    (H : HRep P Z h adr c s) (hsz : mi = 0 → h.size = adr + 1) :
    MetFree l (yOf P me) (head1 [Cond.code (yOf P me) bytes me.ml (retOf me.rt)] (cRoom P mi me)) (fun a U => a = (as.map (va (adr + ·))).toArray ∧ Z.Warmed39 U.vm ∧ U.heap = h) (fun _ _ _ _ _ => True)
      (fun _ U o U' => ∃ w L, o = .returned w ∧ QC P Z n0 adr mi c v s' h w U'.heap L ∧ FrameEnd U o U' L (cRoom P mi me).cells (cRoom P mi me).slots) := by
  refine MetFree.of_bodySF (plainFor_of_name LK.2.2.2.2.2.2.2.2.2.2.1) hisR ?_
  intro p e s₀ m args below meth cd s₁ Bd hml hP hK
  obtain ⟨rfl, hZ, hh⟩ := hP
  have e0 : s₁.heap = h := by rw [← hh, Bd.state]; rfl
  have X0 : Stand p l e (cRoom P mi me) s₀ m _ below meth cd s₁ [] 0 0 := Stand.of_body Bd
  have hown : s₀.vm.findClass P.nm = some m.cls := findClass_of_methodNamed Bd.named
  have hnm : meth.name = me.nm := (name_of_methodNamed Bd.named Bd.method).1
  have hk0 : co mi c = 0 := by simp only [co]; split; · rename_i q; exact hc q
                               · rfl
  have hz0 : zo P mi c = 0 := by
    simp only [zo]; split
    · rename_i q; rw [hc q]; simp [zs]
    · rfl
  have D := hW p l e s₀ m _ below meth cd s₁ [] h c 0 (lay as me.ml) [] s v s' _ Bd.exec hZ hown hnm Bd.returns hml Bd.notSynchronized (fun q => by rw [hh]; exact hsz q)
    (fun pc i n q => by rw [Bd.bytes]; exact hdec pc i n q) hr (by rw [hk0, hz0]; exact X0)
    ⟨by rw [e0]; exact H, Fr.nil n0, by rw [e0]; exact fun x _ => rfl, by
      rw [e0]; split
      · rename_i q; rw [hsz q, hc q]
      · rfl⟩ (lay_LR hd hlen) (lay_len hlen)
  obtain ⟨s₂, o, a1, a2, a3, w, L, a4, a5, a6⟩ := D
  exact ⟨s₂, o, a1, a2, a3, w, L, a4, a5, a6⟩
end Jvm.LM

namespace Jvm.LM
open Sem ClassFile Op Lib Jvm.Stand Jvm.Free Jvm.LawKit Jvm.RoadKit
section Steps
variable {p : Program} {l : Launch} {e : Env} {R : Room} {s₀ : State} {m : MethodId} {args : Array Value} {below : List Frame} {meth : Method} {cd : Code} {T : State} {locs : List Loc} {cells slots : Nat}
variable {P : Cl} {Z : State} {a0 : Array Value} {n0 adr c mi : Nat} {s s' : St} {h0 : Heap}
theorem gfld_val {x : Nat} {w : Value} (hg : gfld P x c s = some w) : ∃ k fe, asc P.fx x = some k ∧ asc P.fs k = some fe ∧ Fval adr c s k fe = va (adr + ·) w := by
  unfold gfld at hg
  split at hg
  · cases hg
  · rename_i k e1
    split at hg
    · cases hg
    · rename_i fe e2
      refine ⟨k, fe, e1, e2, ?_⟩
      simp only [Fval]
      split at hg
      · rename_i e3; cases hg; first | rfl | (rw [e3]; rfl)
      · rename_i e3; cases hg; first | rfl | (rw [e3]; rfl)
      · rename_i e3; cases hg; first | rfl | (rw [e3]; rfl)
      · rename_i j e3
        split at hg
        · rename_i e4; cases hg; first | (simp only [if_pos e4]; rfl) | (rw [e3]; simp only [if_pos e4]; rfl)
        · cases hg
theorem st_get (LK : LinkC P Z a0) (X : Stand p l e R s₀ m args below meth cd T locs cells slots) (hx : p.tables.exec = Jvm.exec) (hZ : Z.Warmed39 s₀.vm) (hown : s₀.vm.findClass P.nm = some m.cls) (H : HRep P Z T.heap adr c s) {x pc : Nat} {w : Value} (hg : gfld P x c s = some w)
    (hd : decode cd.code pc = .ok (.getfield x, 3)) {L : Array Slot} {r : List Value} :
    ∃ T', Stand p l e R s₀ m args below meth cd T' locs cells slots ∧ T'.heap = T.heap ∧ ∀ t, Steps p.tables e below (T'.setTop (mkF m (pc + 3) L (va (adr + ·) w :: r))) t → Steps p.tables e below (T.setTop (mkF m pc L (.ref adr :: r))) t := by
  obtain ⟨k, fe, e1, e2, e3⟩ := gfld_val (adr := adr) hg
  have F := H.2.1 k fe e2
  rw [e3] at F
  exact getF X hx hZ hown (host := "") (Or.inl (LK.2.1 _ _ e1 _ e2)) Via.refl rfl F (g := mkF m pc L (.ref adr :: r)) rfl rfl hd
theorem st_put (LK : LinkC P Z a0) (X : Stand p l e R s₀ m args below meth cd T locs cells slots) (hx : p.tables.exec = Jvm.exec) (hZ : Z.Warmed39 s₀.vm) (hown : s₀.vm.findClass P.nm = some m.cls) (hna : n0 ≤ adr) (I : Inv P Z n0 adr mi c s h0 T.heap locs) {x pc : Nat} {w : Value} {ini : Bool} (hini : ini = true → meth.name = "<init>") (hg : pfld P x ini w s = some s')
    (hd : decode cd.code pc = .ok (.putfield x, 3)) {L : Array Slot} {r : List Value} :
    ∃ T' locs', Stand p l e R s₀ m args below meth cd T' locs' cells slots ∧ Inv P Z n0 adr mi c s' h0 T'.heap locs' ∧ ∀ t, Steps p.tables e below (T'.setTop (mkF m (pc + 3) L r)) t → Steps p.tables e below (T.setTop (mkF m pc L (w :: .ref adr :: r))) t := by
  obtain ⟨H, hFr, hK, hS⟩ := I
  obtain ⟨nF, hnF⟩ := LK.1.1
  unfold pfld at hg
  split at hg
  · cases hg
  · rename_i k e1
    split at hg
    · cases hg
    · rename_i fe e2
      split at hg
      · cases hg
      · rename_i e3
        have hL : (Cond.lays P.nm P.nm fe.1 fe.2.1).before a0 Z = true ∨ ((Cond.laysFinal P.nm P.nm fe.1 fe.2.1).before a0 Z = true ∧ P.nm = P.nm ∧ meth.name = "<init>") := by
          have q := LK.2.2.1 k fe e2
          split at q
          · rename_i e4
            refine Or.inr ⟨q, rfl, hini ?_⟩
            cases ini
            · exact absurd ⟨e4, rfl⟩ e3
            · rfl
          · exact Or.inl q
        have hp := LK.2.2.2.1 k fe e2
        have fin : ∀ {T' : State} {h' : Heap} {v' : Value}, Stand p l e R s₀ m args below meth cd T' (locs ++ [⟨adr, RoadKit.slotOf Z P.nm fe.1 fe.2.1⟩]) cells slots → T'.heap = h' → Wr T.heap h' adr (RoadKit.slotOf Z P.nm fe.1 fe.2.1) v' → v' = Fval adr c s' k fe →
            (∀ a b, (a ≠ 0 ∨ b ≠ k) → gI s' a b = gI s a b ∧ gL s' a b = gL s a b) → Inv P Z n0 adr mi c s' h0 T'.heap (locs ++ [⟨adr, RoadKit.slotOf Z P.nm fe.1 fe.2.1⟩]) := fun {T' h' v'} X' e4 W e5 e6 => by
          rw [e4]
          exact ⟨H.putFld LK e2 W e5 e6, Fr.snoc X' hFr hna, hK.wr W (Nat.le_refl _) (by omega), by rw [W.size]; exact hS⟩
        split at hg
        · rename_i z e4
          cases hg
          rw [e4] at hp
          obtain ⟨T', h', X', q1, W, st⟩ := putF X hx hZ hown (host := "") (Or.inl (LK.2.1 _ _ e1 _ e2)) Via.refl rfl (H.2.1 k fe e2) H.1 hL hnF hp (narrow_I z) rfl (g := mkF m pc L (.int z :: .ref adr :: r)) rfl rfl hd
          refine ⟨T', _, X', fin X' q1 W (by simp only [Fval, e4]; simp [gI_sI]) (fun a b hab => ?_), st⟩
          rw [gI_sI, gL_sI, if_neg (by omega)]; exact ⟨rfl, rfl⟩
        · rename_i z e4
          cases hg
          rw [e4] at hp
          obtain ⟨T', h', X', q1, W, st⟩ := putFN X hx hZ hown (LK.2.1 _ _ e1 _ e2) Via.refl rfl (H.2.1 k fe e2) H.1 hL hnF (v' := .int (z &&& 1)) hp rfl (fits_nar_bool z) (g := mkF m pc L (.int z :: .ref adr :: r)) rfl rfl hd
          refine ⟨T', _, X', fin X' q1 W (by simp only [Fval, e4]; simp [gI_sI]) (fun a b hab => ?_), st⟩
          rw [gI_sI, gL_sI, if_neg (by omega)]; exact ⟨rfl, rfl⟩
        · rename_i z e4
          cases hg
          rw [e4] at hp
          obtain ⟨T', h', X', q1, W, st⟩ := putF X hx hZ hown (host := "") (Or.inl (LK.2.1 _ _ e1 _ e2)) Via.refl rfl (H.2.1 k fe e2) H.1 hL hnF hp rfl rfl (g := mkF m pc L (.long z :: .ref adr :: r)) rfl rfl hd
          refine ⟨T', _, X', fin X' q1 W (by simp only [Fval, e4]; simp [gL_sL]) (fun a b hab => ?_), st⟩
          rw [gL_sL, gI_sL, if_neg (by omega)]; exact ⟨rfl, rfl⟩
        · cases hg
theorem lda_spec {tt : Nat} {st st' : List Value} (hl : lda P tt c st s = some st') : ∃ i a r N, st = .int i :: .ref (a + 1) :: r ∧ P.al[a]? = some (tt, N) ∧ a < c ∧ inb N i ∧ st' = elv tt s (a + 1) (ix i) :: r := by
  unfold lda at hl
  split at hl
  · rename_i i a r
    split at hl
    · rename_i t2 N e1
      split at hl
      · rename_i e2
        obtain ⟨rfl, e3⟩ := e2
        split at hl
        · rename_i e4; cases hl; exact ⟨i, a, r, N, rfl, e1, e3, e4, rfl⟩
        · cases hl
      · cases hl
    · cases hl
  · cases hl
theorem va_elv (ρ : Nat → Nat) (tt : Nat) (s : St) (j i : Nat) : va ρ (elv tt s j i) = elv tt s j i := by unfold elv; split <;> rfl
theorem st_lda (X : Stand p l e R s₀ m args below meth cd T locs cells slots) (hx : p.tables.exec = Jvm.exec) (hZ : Z.Warmed39 s₀.vm) (H : HRep P Z T.heap adr c s) {tt pc : Nat} {st st' : List Value} (hl : lda P tt c st s = some st') {i : Instr}
    (hi : (tt = 0 ∧ i = .iaload) ∨ (tt = 1 ∧ i = .baload) ∨ (tt = 2 ∧ i = .laload)) (hd : decode cd.code pc = .ok (i, 1)) {L : Array Slot} :
    ∀ t, Steps p.tables e below (T.setTop (mkF m (pc + 1) L (st'.map (va (adr + ·))))) t → Steps p.tables e below (T.setTop (mkF m pc L (st.map (va (adr + ·))))) t := by
  obtain ⟨j, a, r, N, rfl, e1, e2, e3, rfl⟩ := lda_spec hl
  obtain ⟨cl, A, hN, hv⟩ := H.2.2.1 a tt N e1 e2
  have hin : ¬ (j < 0 ∨ cl.slots.size ≤ j.toNatClampNeg) := by rw [hN]; exact inb_not e3
  have hat : cl.slots[j.toNatClampNeg]? = some (elv tt s (a + 1) (ix j)) := hv (ix j) (inb_ix e3)
  intro t q
  rw [List.map_cons, va_elv] at q
  rcases hi with ⟨rfl, rfl⟩ | ⟨rfl, rfl⟩ | ⟨rfl, rfl⟩
  · exact X.iaload hx A.1 (State.isArrayOf_alike hZ.alike A.2.1) A.2.2 hin hat (g := mkF m pc L (.int j :: .ref (adr + (a + 1)) :: r.map (va (adr + ·)))) rfl rfl hd t q
  · exact X.baloadBooleans hx A.1 (State.isArrayOf_alike hZ.alike A.2.1) A.2.2 hin hat (g := mkF m pc L (.int j :: .ref (adr + (a + 1)) :: r.map (va (adr + ·)))) rfl rfl hd t q
  · exact X.laload hx A.1 (State.isArrayOf_alike hZ.alike A.2.1) A.2.2 hin hat (g := mkF m pc L (.int j :: .ref (adr + (a + 1)) :: r.map (va (adr + ·)))) rfl rfl hd t q
theorem sta_spec {tt : Nat} {st st' : List Value} (hl : sta P tt c st s = some (st', s')) : ∃ v i a N, st = v :: .int i :: .ref (a + 1) :: st' ∧ P.al[a]? = some (tt, N) ∧ a < c ∧ inb N i ∧
    ((tt = 0 ∧ ∃ z, v = .int z ∧ s' = sI s (a + 1) (ix i) z) ∨ (tt = 1 ∧ ∃ z, v = .int z ∧ s' = sI s (a + 1) (ix i) (z &&& 1)) ∨ (tt = 2 ∧ ∃ z, v = .long z ∧ s' = sL s (a + 1) (ix i) z)) := by
  unfold sta at hl
  split at hl
  · rename_i v i a r
    split at hl
    · rename_i t2 N e1
      split at hl
      · rename_i e2
        obtain ⟨rfl, e3⟩ := e2
        split at hl
        · rename_i e4
          split at hl
          · cases hl; exact ⟨_, i, a, N, rfl, e1, e3, e4, Or.inl ⟨rfl, _, rfl, rfl⟩⟩
          · cases hl; exact ⟨_, i, a, N, rfl, e1, e3, e4, Or.inr (Or.inl ⟨rfl, _, rfl, rfl⟩)⟩
          · cases hl; exact ⟨_, i, a, N, rfl, e1, e3, e4, Or.inr (Or.inr ⟨rfl, _, rfl, rfl⟩)⟩
          · cases hl
        · cases hl
      · cases hl
    · cases hl
  · cases hl
theorem st_sta (X : Stand p l e R s₀ m args below meth cd T locs cells slots) (hx : p.tables.exec = Jvm.exec) (hZ : Z.Warmed39 s₀.vm) (hna : n0 ≤ adr) (I : Inv P Z n0 adr mi c s h0 T.heap locs) {tt pc : Nat} {st st' : List Value} (hl : sta P tt c st s = some (st', s')) {i : Instr}
    (hi : (tt = 0 ∧ i = .iastore) ∨ (tt = 1 ∧ i = .bastore) ∨ (tt = 2 ∧ i = .lastore)) (hd : decode cd.code pc = .ok (i, 1)) {L : Array Slot} :
    ∃ T' locs', Stand p l e R s₀ m args below meth cd T' locs' cells slots ∧ Inv P Z n0 adr mi c s' h0 T'.heap locs' ∧ ∀ t, Steps p.tables e below (T'.setTop (mkF m (pc + 1) L (st'.map (va (adr + ·))))) t → Steps p.tables e below (T.setTop (mkF m pc L (st.map (va (adr + ·))))) t := by
  obtain ⟨H, hFr, hK, hS⟩ := I
  obtain ⟨v, j, a, N, rfl, e1, e2, e3, e4⟩ := sta_spec hl
  obtain ⟨cl, A, hN, hv⟩ := H.2.2.1 a tt N e1 e2
  have hin : ¬ (j < 0 ∨ cl.slots.size ≤ j.toNatClampNeg) := by rw [hN]; exact inb_not e3
  have hal := (List.getElem?_eq_some_iff.mp e1).1
  have fin : ∀ {T' : State} {h' : Heap} {v' : Value}, Stand p l e R s₀ m args below meth cd T' (locs ++ [⟨adr + (a + 1), j.toNatClampNeg⟩]) cells slots → T'.heap = h' → Wr T.heap h' (adr + (a + 1)) j.toNatClampNeg v' → v' = elv tt s' (a + 1) (ix j) →
      (∀ x y, (x ≠ a + 1 ∨ y ≠ ix j) → gI s' x y = gI s x y ∧ gL s' x y = gL s x y) → Inv P Z n0 adr mi c s' h0 T'.heap (locs ++ [⟨adr + (a + 1), j.toNatClampNeg⟩]) := fun {T' h' v'} X' q1 W q2 q3 => by
    rw [q1]
    exact ⟨H.putArr e1 e2 (inb_ix e3) W q2 q3, Fr.snoc X' hFr (by omega), hK.wr W (by omega) (by omega), by rw [W.size]; exact hS⟩
  rcases e4 with ⟨rfl, z, rfl, rfl⟩ | ⟨rfl, z, rfl, rfl⟩ | ⟨rfl, z, rfl, rfl⟩
  · obtain ⟨-, rfl⟩ : (0 : Nat) = 0 ∧ i = .iastore := by rcases hi with q | q | q <;> first | exact q | (have := q.1; omega)
    obtain ⟨T', h', X', q1, W, st⟩ := stI X hx hZ rfl A hin (g := mkF m pc L (.int z :: .int j :: .ref (adr + (a + 1)) :: st'.map (va (adr + ·)))) rfl rfl hd
    refine ⟨T', _, X', fin X' q1 W (by simp [elv, gI_sI, ix]) (fun x y hxy => ?_), st⟩
    rw [gI_sI, gL_sI, if_neg (fun q => hxy.elim (fun z => z q.1) (fun z => z q.2))]; exact ⟨rfl, rfl⟩
  · obtain ⟨-, rfl⟩ : (1 : Nat) = 1 ∧ i = .bastore := by rcases hi with q | q | q <;> first | exact q | (have := q.1; omega)
    obtain ⟨T', h', X', q1, W, st⟩ := stZ X hx hZ rfl A hin (g := mkF m pc L (.int z :: .int j :: .ref (adr + (a + 1)) :: st'.map (va (adr + ·)))) rfl rfl hd
    refine ⟨T', _, X', fin X' q1 W (by simp [elv, gI_sI, ix, nar]) (fun x y hxy => ?_), st⟩
    rw [gI_sI, gL_sI, if_neg (fun q => hxy.elim (fun z => z q.1) (fun z => z q.2))]; exact ⟨rfl, rfl⟩
  · obtain ⟨-, rfl⟩ : (2 : Nat) = 2 ∧ i = .lastore := by rcases hi with q | q | q <;> first | exact q | (have := q.1; omega)
    obtain ⟨T', h', X', q1, W, st⟩ := stJ X hx hZ rfl A hin (g := mkF m pc L (.long z :: .int j :: .ref (adr + (a + 1)) :: st'.map (va (adr + ·)))) rfl rfl hd
    refine ⟨T', _, X', fin X' q1 W (by simp [elv, gL_sL, ix]) (fun x y hxy => ?_), st⟩
    rw [gL_sL, gI_sL, if_neg (fun q => hxy.elim (fun z => z q.1) (fun z => z q.2))]; exact ⟨rfl, rfl⟩
theorem newF_spec {t : ArrayType} {code : Cd} {pc : Nat} {st : List Value} (h : newF P t code pc c st = true) : ∃ n x k fe tt N, st = [.int n, .ref 0] ∧ fetch code (pc + 2) = some (.putfield x, 3) ∧ asc P.fx x = some k ∧ asc P.fs k = some fe ∧ P.al[c]? = some (tt, N) ∧
    fe.2.2.1 = c + 3 ∧ t = atOf tt ∧ 0 ≤ n.toInt ∧ n.toInt = N ∧ N < 1000000 := by
  unfold newF at h
  split at h
  · rename_i n
    split at h
    · rename_i x e1
      split at h
      · rename_i k e2
        split at h
        · rename_i fe e3
          split at h
          · rename_i tt N e4
            obtain ⟨q1, q2, q3, q4, q5⟩ := of_decide_eq_true h
            exact ⟨n, x, k, fe, tt, N, rfl, e1, e2, e3, e4, q1, q2, q3, q4, q5⟩
          · cases h
        · cases h
      · cases h
    · cases h
  · cases h
theorem ty_at {tt : Nat} (h : tt ≤ 2) : newarray.typeOf (atOf tt) = tyOf tt := by
  have : tt = 0 ∨ tt = 1 ∨ tt = 2 := by omega
  rcases this with rfl | rfl | rfl <;> rfl
theorem st_new (LK : LinkC P Z a0) {me : Me} (hme : asc P.ms 0 = some me) (hnm : meth.name = me.nm) (X : Stand p l e (cRoom P 0 me) s₀ m args below meth cd T locs (co 0 c) (zo P 0 c)) (hx : p.tables.exec = Jvm.exec) (hZ : Z.Warmed39 s₀.vm) (hown : s₀.vm.findClass P.nm = some m.cls) (hna : n0 ≤ adr) (hs0 : s₀.heap.size = adr + 1) (I : Inv P Z n0 adr 0 c s h0 T.heap locs)
    (hdec : ∀ pc i n, fetch me.cd pc = some (i, n) → decode cd.code pc = .ok (i, n) ∧ (isSw i = true ∨ n = ilen i)) {t : ArrayType} {pc : Nat} {st : List Value} (h : newF P t me.cd pc c st = true) (hd : decode cd.code pc = .ok (.newarray t, 2)) {L : Array Slot} :
    ∃ T' locs', Stand p l e (cRoom P 0 me) s₀ m args below meth cd T' locs' (co 0 (c + 1)) (zo P 0 (c + 1)) ∧ Inv P Z n0 adr 0 (c + 1) s h0 T'.heap locs' ∧ ∀ t, Steps p.tables e below (T'.setTop (mkF m (pc + 5) L [])) t → Steps p.tables e below (T.setTop (mkF m pc L (st.map (va (adr + ·))))) t := by
  obtain ⟨H, hFr, hK, hS⟩ := I
  obtain ⟨nF, hnF⟩ := LK.1.1
  obtain ⟨n, x, k, fe, tt, N, rfl, e1, e2, e3, e4, e5, rfl, e6, e7, e8⟩ := newF_spec h
  obtain ⟨htt, hac⟩ := LK.2.2.2.2.2.1 _ _ _ e4
  have hal := (List.getElem?_eq_some_iff.mp e4).1
  have hS' : T.heap.size = adr + 1 + c := hS
  have hty := ty_at htt
  have hini : meth.name = "<init>" := by rw [hnm]; exact LK.2.2.2.2.2.2.2.2.2.2.2.2 me hme
  have hLy : (Cond.lays P.nm P.nm fe.1 fe.2.1).before a0 Z = true ∨ ((Cond.laysFinal P.nm P.nm fe.1 fe.2.1).before a0 Z = true ∧ P.nm = P.nm ∧ meth.name = "<init>") := by
    have q := LK.2.2.1 k fe e3
    split at q
    · exact Or.inr ⟨q, rfl, hini⟩
    · exact Or.inl q
  have hzc := zs_succ P.al e4
  have hzm := zs_le P.al (c + 1)
  obtain ⟨T1, hp1, cA, X1, q1, E, A, st1⟩ := newP X hx hZ (aty := atOf tt) (by rw [hty]; exact hac) rfl (g := mkF m pc L [.int n, .ref adr]) rfl hd rfl (by rw [Int32.lt_iff_toInt_lt]; simp only [Int32.reduceToInt]; omega) (cap := N)
    (by simp only [Int32.toNatClampNeg]; omega) (by omega) (by simp only [co, cRoom, if_true]; omega) (by simp only [zo, cRoom, if_true]; omega)
  rw [hty] at A
  have hp := LK.2.2.2.1 k fe e3
  rw [e5] at hp
  obtain ⟨d2, -⟩ := hdec _ _ _ e1
  have hsz1 : hp1.size = adr + 1 + (c + 1) := by
    have hh : T1.heap.size ≤ s₀.heap.size + (c + 1) := X1.heapSize
    have g2 : T.heap.size < Array.size hp1 := A.lt
    rw [q1, hs0] at hh
    rw [hS'] at g2
    omega
  obtain ⟨T2, hp2, X2, q2, W, st2⟩ := putF X1 hx hZ hown (host := "") (Or.inl (LK.2.1 _ _ e2 _ e3)) Via.refl q1 ((H.2.1 k fe e3).ext E) (H.1.ext E) hLy hnF (v := .ref T.heap.size) hp rfl rfl (g := mkF m (pc + 2) L [.ref T.heap.size, .ref adr]) rfl rfl d2
  refine ⟨T2, _, by simpa [co, zo, hzc] using X2, ?_, fun t q => st1 _ (st2 _ q)⟩
  rw [q2]
  refine ⟨H.newArr LK e3 e5 e4 e6 e7 hS' E A W, Fr.snoc X2 hFr hna, ?_, by rw [W.size, hsz1]; simp⟩
  exact (hK.ext E (by rw [hsz1]; omega) (by omega)).wr W (Nat.le_refl _) (by omega)
end Steps
end Jvm.LM

namespace Jvm.LM
open Sem ClassFile Op Lib Jvm.Stand Jvm.Free Jvm.LawKit Jvm.RoadKit
theorem cret_spec {me : Me} {st : List Value} {i : Instr} {v : Option Value} (h : cret me st i = some v) :
    (∃ x, i = .ireturn ∧ st = [.int x] ∧ ((me.rt = 1 ∧ v = some (.int x)) ∨ (me.rt = 2 ∧ v = some (.int (x &&& 1))))) ∨ (∃ x, i = .lreturn ∧ st = [.long x] ∧ me.rt = 3 ∧ v = some (.long x)) ∨ (i = .return_ ∧ st = [] ∧ me.rt = 0 ∧ v = none) := by
  unfold cret at h
  split at h
  · split at h
    · rename_i x
      split at h
      · rename_i e1; cases h; exact Or.inl ⟨x, rfl, rfl, Or.inl ⟨e1, rfl⟩⟩
      · split at h
        · rename_i e1; cases h; exact Or.inl ⟨x, rfl, rfl, Or.inr ⟨e1, rfl⟩⟩
        · cases h
    · cases h
  · split at h
    · rename_i x
      split at h
      · rename_i e1; cases h; exact Or.inr (Or.inl ⟨x, rfl, rfl, e1, rfl⟩)
      · cases h
    · cases h
  · split at h
    · split at h
      · rename_i e1; cases h; exact Or.inr (Or.inr ⟨rfl, rfl, e1, rfl⟩)
      · cases h
    · cases h
  · cases h
section Ret
variable {p : Program} {l : Launch} {e : Env} {R : Room} {s₀ : State} {m : MethodId} {args : Array Value} {below : List Frame} {meth : Method} {cd : Code} {T : State} {locs : List Loc} {cells slots : Nat}
theorem retI' (X : Stand p l e R s₀ m args below meth cd T locs cells slots) (hx : p.tables.exec = Jvm.exec) {pc : Nat} {Ls : Array Slot} {z : Int32} {rest : List Value} (hret : meth.sig.returnType = some .int) (hd : decode cd.code pc = .ok (.ireturn, 1)) {fs : List Frame}
    (hl : ∀ (f : JFrame) (acts : List Action), f.method = m → f.locked = none → f.entered = [] → (doReturn e (T.setTop f) acts (some (.int z))).1 = T.setFrames fs) : Steps p.tables e below (T.setTop (mkF m pc Ls (.int z :: rest))) (T.setFrames fs) :=
  retOut X hx (t := .int) (i := .ireturn) hret rfl (Or.inl ⟨rfl, Or.inl rfl, z, rfl⟩) hd hl
theorem st_ret (X : Stand p l e R s₀ m args below meth cd T locs cells slots) (hx : p.tables.exec = Jvm.exec) {me : Me} (hret : meth.sig.returnType = retOf me.rt) (hlk : meth.locks = false) {ρ : Nat → Nat} {st : List Value} {i : Instr} {v : Option Value} (h : cret me st i = some v) {pc n : Nat} (hd : decode cd.code pc = .ok (i, n)) (hn : isSw i = true ∨ n = ilen i)
    {Q : Option Value → Heap → List Loc → Prop} (hQ : Q v T.heap locs) (hc : cells ≤ R.cells) (hs : slots ≤ R.slots) {L : Array Slot} : Don p e below s₀ R Q (T.setTop (mkF m pc L (st.map (va ρ)))) := by
  rcases cret_spec h with ⟨x, rfl, rfl, h1⟩ | ⟨x, rfl, rfl, h1, rfl⟩ | ⟨rfl, rfl, h1, rfl⟩
  · obtain rfl := hn.resolve_left Bool.false_ne_true
    rcases h1 with ⟨h1, rfl⟩ | ⟨h1, rfl⟩
    · rw [h1] at hret
      obtain ⟨fs, hr, hrun, hended, hW, hsame⟩ := X.leave (v := some (.int x)) (fun q => by rw [hret] at q; cases q) hlk
      exact ⟨_, _, retI' X hx hret hd hr, hrun, hended, _, _, rfl, hQ, ⟨_, rfl⟩, hW, hsame.mono hc hs⟩
    · rw [h1] at hret
      obtain ⟨fs, hr, hrun, hended, hW, hsame⟩ := X.leave (v := some (.int (x &&& 1))) (fun q => by rw [hret] at q; cases q) hlk
      exact ⟨_, _, retN X hx (t := .boolean) hret (Or.inl rfl) hd hr, hrun, hended, _, _, rfl, hQ, ⟨_, rfl⟩, hW, hsame.mono hc hs⟩
  · obtain rfl := hn.resolve_left Bool.false_ne_true
    rw [h1] at hret
    obtain ⟨fs, hr, hrun, hended, hW, hsame⟩ := X.leave (v := some (.long x)) (fun q => by rw [hret] at q; cases q) hlk
    exact ⟨_, _, retOut X hx (t := .long) (i := .lreturn) hret rfl (Or.inr (Or.inl ⟨rfl, rfl, x, rfl⟩)) hd hr, hrun, hended, _, _, rfl, hQ, ⟨_, rfl⟩, hW, hsame.mono hc hs⟩
  · obtain rfl := hn.resolve_left Bool.false_ne_true
    rw [h1] at hret
    obtain ⟨fs, hr, hrun, hended, hW, hsame⟩ := X.leave (v := none) (fun _ => rfl) hlk
    exact ⟨_, _, X.returnOut hx hret hd hr, hrun, hended, _, _, rfl, hQ, ⟨_, rfl⟩, hW, hsame.mono hc hs⟩
end Ret
theorem cret_va {me : Me} {st : List Value} {i : Instr} {v : Option Value} (h : cret me st i = some v) (ρ : Nat → Nat) : v.toList.map (va ρ) = v.toList := by
  rcases cret_spec h with ⟨x, rfl, rfl, ⟨-, rfl⟩ | ⟨-, rfl⟩⟩ | ⟨x, rfl, rfl, -, rfl⟩ | ⟨rfl, rfl, -, rfl⟩ <;> rfl
theorem nd_rev {ρ : Nat → Nat} {as : List Value} (h : nd as = true) : ∀ v ∈ (Value.ref 0 :: as.reverse), ∀ x, v ≠ .double x := fun v hv x e => by
  rcases List.mem_cons.mp hv with q | q
  · subst q; cases e
  · exact nd_spec h v (List.mem_reverse.mp q) x e
theorem pfld_va {P : Cl} {x : Nat} {ini : Bool} {w : Value} {s s1 : St} (hg : pfld P x ini w s = some s1) (ρ : Nat → Nat) : va ρ w = w := by
  cases w <;> first | rfl | skip
  exfalso
  unfold pfld at hg
  split at hg
  · cases hg
  · split at hg
    · cases hg
    · split at hg
      · cases hg
      · split at hg
        · rename_i q; cases q
        · rename_i q; cases q
        · rename_i q; cases q
        · cases hg
theorem cwalk {P : Cl} {Z : State} {a0 : Array Value} (LK : LinkC P Z a0) {n0 adr : Nat} (hna : n0 ≤ adr) : ∀ f mi me, asc P.ms mi = some me → CW P Z n0 adr f mi me := by
  intro f
  induction f with
  | zero =>
    intro mi me hme p l e s₀ m args below meth cd T locs h0 c pc ls st s v s' L hx hZ hown hnm hret hml hlk hs0 hdec hr
    cases hr
  | succ f ih =>
    intro mi me hme p l e s₀ m args below meth cd T locs h0 c pc ls st s v s' L hx hZ hown hnm hret hml hlk hs0 hdec hr X I hL hlen
    simp only [cexec] at hr
    split at hr
    · cases hr
    · rename_i i n hf
      obtain ⟨hd, hn⟩ := hdec pc i n hf
      have ihk := ih mi me hme
      have hsize : L.size = cd.maxLocals := by rw [hL.1, hlen, hml]
      obtain ⟨nF, hnF⟩ := LK.1.1
      unfold cstep at hr
      split at hr
      -- getfield
      · obtain rfl := hn.resolve_left Bool.false_ne_true
        split at hr
        · rename_i r
          split at hr
          · rename_i w hg
            obtain ⟨T', X', q1, st⟩ := st_get LK X hx hZ hown I.1 hg hd (L := L) (r := r.map (va (adr + ·)))
            exact Don.step st (ihk p l e s₀ m args below meth cd T' locs h0 c _ ls (w :: r) s v s' L hx hZ hown hnm hret hml hlk hs0 hdec hr X' (by rw [q1]; exact I) hL hlen)
          · cases hr
        · cases hr
      -- putfield
      · obtain rfl := hn.resolve_left Bool.false_ne_true
        split at hr
        · rename_i w r
          split at hr
          · rename_i s1 hg
            have hini : (mi == 0) = true → meth.name = "<init>" := fun q => by
              have q : mi = 0 := by simpa using q
              subst q; rw [hnm]; exact LK.2.2.2.2.2.2.2.2.2.2.2.2 me hme
            have hw : va (adr + ·) w = w := pfld_va hg _
            obtain ⟨T', locs', X', I', st⟩ := st_put LK X hx hZ hown hna I hini hg hd (L := L) (r := r.map (va (adr + ·)))
            refine Don.step (fun t q => ?_) (ihk p l e s₀ m args below meth cd T' locs' h0 c _ ls r s1 v s' L hx hZ hown hnm hret hml hlk hs0 hdec hr X' I' hL hlen)
            have := st t q
            rw [List.map_cons, hw]; exact this
          · cases hr
        · cases hr
      -- loads of arrays
      · obtain rfl := hn.resolve_left Bool.false_ne_true
        split at hr
        · rename_i st' hg
          exact Don.step (st_lda X hx hZ I.1 hg (Or.inl ⟨rfl, rfl⟩) hd) (ihk p l e s₀ m args below meth cd T locs h0 c _ ls st' s v s' L hx hZ hown hnm hret hml hlk hs0 hdec hr X I hL hlen)
        · cases hr
      · obtain rfl := hn.resolve_left Bool.false_ne_true
        split at hr
        · rename_i st' hg
          exact Don.step (st_lda X hx hZ I.1 hg (Or.inr (Or.inl ⟨rfl, rfl⟩)) hd) (ihk p l e s₀ m args below meth cd T locs h0 c _ ls st' s v s' L hx hZ hown hnm hret hml hlk hs0 hdec hr X I hL hlen)
        · cases hr
      · obtain rfl := hn.resolve_left Bool.false_ne_true
        split at hr
        · rename_i st' hg
          exact Don.step (st_lda X hx hZ I.1 hg (Or.inr (Or.inr ⟨rfl, rfl⟩)) hd) (ihk p l e s₀ m args below meth cd T locs h0 c _ ls st' s v s' L hx hZ hown hnm hret hml hlk hs0 hdec hr X I hL hlen)
        · cases hr
      -- stores into arrays
      · obtain rfl := hn.resolve_left Bool.false_ne_true
        split at hr
        · rename_i st' s1 hg
          obtain ⟨T', locs', X', I', st⟩ := st_sta X hx hZ hna I hg (Or.inl ⟨rfl, rfl⟩) hd (L := L)
          exact Don.step st (ihk p l e s₀ m args below meth cd T' locs' h0 c _ ls st' s1 v s' L hx hZ hown hnm hret hml hlk hs0 hdec hr X' I' hL hlen)
        · cases hr
      · obtain rfl := hn.resolve_left Bool.false_ne_true
        split at hr
        · rename_i st' s1 hg
          obtain ⟨T', locs', X', I', st⟩ := st_sta X hx hZ hna I hg (Or.inr (Or.inl ⟨rfl, rfl⟩)) hd (L := L)
          exact Don.step st (ihk p l e s₀ m args below meth cd T' locs' h0 c _ ls st' s1 v s' L hx hZ hown hnm hret hml hlk hs0 hdec hr X' I' hL hlen)
        · cases hr
      · obtain rfl := hn.resolve_left Bool.false_ne_true
        split at hr
        · rename_i st' s1 hg
          obtain ⟨T', locs', X', I', st⟩ := st_sta X hx hZ hna I hg (Or.inr (Or.inr ⟨rfl, rfl⟩)) hd (L := L)
          exact Don.step st (ihk p l e s₀ m args below meth cd T' locs' h0 c _ ls st' s1 v s' L hx hZ hown hnm hret hml hlk hs0 hdec hr X' I' hL hlen)
        · cases hr
      -- newarray and putfield
      · obtain rfl := hn.resolve_left Bool.false_ne_true
        split at hr
        · rename_i hg
          obtain ⟨rfl, hg⟩ := hg
          obtain ⟨T', locs', X', I', st⟩ := st_new LK hme hnm X hx hZ hown hna (hs0 rfl) I hdec hg hd (L := L)
          exact Don.step st (ihk p l e s₀ m args below meth cd T' locs' h0 (c + 1) _ ls [] s v s' L hx hZ hown hnm hret hml hlk hs0 hdec hr X' I' hL hlen)
        · cases hr
      -- constants
      · obtain rfl := hn.resolve_left Bool.false_ne_true
        split at hr
        · rename_i z hg
          exact Don.step (fun t q => X.ldcI hx hown (mv hZ (LK.2.2.2.2.2.2.1 _ _ hg)) (g := mkF m pc L (st.map (va (adr + ·)))) rfl hd q) (ihk p l e s₀ m args below meth cd T locs h0 c _ ls (.int z :: st) s v s' L hx hZ hown hnm hret hml hlk hs0 hdec hr X I hL hlen)
        · cases hr
      · obtain rfl := hn.resolve_left Bool.false_ne_true
        split at hr
        · rename_i z hg
          exact Don.step (fun t q => X.ldc2J hx hown (mv hZ (LK.2.2.2.2.2.2.1 _ _ hg)) (g := mkF m pc L (st.map (va (adr + ·)))) rfl hd q) (ihk p l e s₀ m args below meth cd T locs h0 c _ ls (.long z :: st) s v s' L hx hZ hown hnm hret hml hlk hs0 hdec hr X I hL hlen)
        · cases hr
      -- Object's constructor
      · obtain rfl := hn.resolve_left Bool.false_ne_true
        split at hr
        · rename_i r
          split at hr
          · rename_i hg
            obtain ⟨rfl, hg1, hg2⟩ := hg
            obtain ⟨w1, w2, w3⟩ := LK.2.2.2.2.2.2.2.1
            obtain ⟨T', X', q1, st⟩ := initO X hx hZ hown w1 w2 w3 rfl (g := mkF m pc L (.ref adr :: r.map (va (adr + ·)))) rfl hsize rfl hd hg1 (W := cats r) (by show 2 * 0 + _ ≤ _; rw [cats_va]; omega) hg2
            exact Don.step st (ihk p l e s₀ m args below meth cd T' locs h0 c _ ls r s v s' L hx hZ hown hnm hret hml hlk hs0 hdec hr X' (by rw [q1]; exact I) hL hlen)
          · cases hr
        · cases hr
      -- a call
      · obtain rfl := hn.resolve_left Bool.false_ne_true
        split at hr
        · cases hr
        · rename_i m' hm'
          split at hr
          · cases hr
          · rename_i me' hme'
            split at hr
            · rename_i r hst
              split at hr
              · rename_i hg
                obtain ⟨hg0, hg1, hg2, hg3⟩ := hg
                dsimp only at hr
                rw [hme'] at hr
                dsimp only at hr
                obtain ⟨bytes, ps, hcode, hdec', hpar, hpl⟩ := LK.2.2.2.2.2.2.2.2.1 m' me' hme'
                obtain ⟨w1, w2, w3⟩ := LK.2.2.2.2.2.2.2.2.2.1 _ _ hm' _ hme'
                by_cases hla : (layA (Value.ref 0 :: (st.take me'.na).reverse)).length ≤ me'.ml
                · rw [if_pos hla] at hr
                  cases hcl : cexec P f m' me' c 0 (lay (.ref 0 :: (st.take me'.na).reverse) me'.ml) [] s with
                  | none => rw [hcl] at hr; cases hr
                  | some vs =>
                    obtain ⟨w, s1⟩ := vs
                    rw [hcl] at hr
                    have hr' : cexec P f mi me c (pc + 3) ls (w.toList ++ r) s1 = some (v, s') := by cases w <;> exact hr
                    have hM := met_of_CW LK hme' (ih m' me' hme') l hdec' (as := .ref 0 :: (st.take me'.na).reverse) (nd_rev (ρ := id) hg3) hla hcl (fun q => absurd q hg0) I.1 (fun q => absurd q hg0)
                    have hB := backOf (R := cRoom P mi me) (p := p) (e := e) (below := below) (s := s₀) (args := args) (len := 3) (W := cats r) hM hZ hcode LK.1.2 hg1 hg2
                    have hdl : me'.na < st.length := by
                      have := congrArg List.length hst
                      simp at this; omega
                    have hsp : st = st.take me'.na ++ .ref 0 :: r := by rw [← hst, List.take_append_drop]
                    have hcell := I.1.1.cell
                    obtain ⟨cel, hc1, hc2⟩ := hcell
                    have key : ∃ (v' : Option Value) (U : State) (Lc : List Loc), Stand p l e (cRoom P mi me) s₀ m args below meth cd U (locs ++ Lc) (co mi c) (zo P mi c) ∧ QC P Z n0 adr m' c w s1 T.heap v' U.heap Lc ∧
                        Steps p.tables e below (T.setTop (mkF m pc L (st.map (va (adr + ·))))) (U.setTop (mkF m (pc + 3) L (v'.toList ++ r.map (va (adr + ·))))) := by
                      have hsm : st.map (va (adr + ·)) = ((st.take me'.na).reverse.map (va (adr + ·))).reverse ++ .ref adr :: r.map (va (adr + ·)) := by
                        conv => lhs; rw [hsp]
                        simp [va]
                      have hll : ∀ sig, parseMethodDescriptor (yOf P me').desc = some sig → ((st.take me'.na).reverse.map (va (adr + ·))).length = sig.parameters.length := lenOf hpar (by simp [hpl]; omega)
                      have hpre : ∀ vm₁, s₀.WarmedH vm₁ → ((Value.ref adr :: (st.take me'.na).reverse.map (va (adr + ·))).toArray = ((Value.ref 0 :: (st.take me'.na).reverse).map (va (adr + ·))).toArray ∧ (T.setVm vm₁).heap = T.heap ∧ co mi c + (cRoom P m' me').cells ≤ (cRoom P mi me).cells ∧ zo P mi c + (cRoom P m' me').slots ≤ (cRoom P mi me).slots) := fun vm₁ _ => by
                        refine ⟨by simp [va], rfl, ?_, ?_⟩
                        · simp only [co, cRoom, if_neg hg0]
                          have := I.1.2.2.2.2
                          split <;> omega
                        · simp only [zo, cRoom, if_neg hg0]
                          have := zs_le P.al c
                          split <;> omega
                      have hz1 : (cRoom P m' me').cells = 0 := by simp [cRoom, hg0]
                      have hz2 : (cRoom P m' me').slots = 0 := by simp [cRoom, hg0]
                      rcases w3 with w3 | ⟨w3, w4⟩
                      · obtain ⟨v', vm₁, ⟨U, lo, ce, sl⟩, -, X', ⟨Lc, hQ, l1, l2, l3⟩, stp⟩ := privCall X hx (y := yOf P me') hown (mv hZ w1) (mv hZ w2) (nF := nF) (mv hZ hnF) (Cond.privateMethod_at (mvP hZ w3 (args := args))) (mv hZ hcode) LK.2.2.2.2.2.2.2.2.2.2.2.1 hB (g := mkF m pc L (st.map (va (adr + ·)))) rfl hsize hc1 hc2 hll hsm (by show 2 * 0 + _ ≤ _; rw [cats_va]; omega) hd hpre
                        dsimp only [Pt.U, Pt.locs, Pt.cells, Pt.slots] at X' hQ l1 l2 l3 stp
                        subst l1 l2 l3
                        rw [hz1, hz2] at X'
                        exact ⟨v', U, Lc, X', hQ, stp⟩
                      · obtain ⟨cq, kq, qa, qb, qc⟩ := isOf hZ rfl I.1.1
                        obtain ⟨v', vm₁, ⟨U, lo, ce, sl⟩, -, X', ⟨Lc, hQ, l1, l2, l3⟩, stp⟩ := X.virtualBack hx (y := yOf P me') (z := yOf P me') hown (mv hZ w1) (mv hZ w3) (notFace_of_selects (args := #[]) (mv hZ w4)) (mv hZ w4) (mv hZ w2) LK.2.2.2.2.2.2.2.2.2.2.2.1 hB qa qc (g := mkF m pc L (st.map (va (adr + ·)))) rfl hsize (Steps.refl _) hll hsm (by show 2 * 0 + _ ≤ _; rw [cats_va]; omega) hd hpre
                        dsimp only [Pt.U, Pt.locs, Pt.cells, Pt.slots] at X' hQ l1 l2 l3 stp
                        subst l1 l2 l3
                        rw [hz1, hz2] at X'
                        exact ⟨v', U, Lc, X', hQ, stp⟩
                    obtain ⟨v', U, Lc, X', ⟨⟨rfl, hva⟩, hF', hH', hK', hS'⟩, stp⟩ := key
                    rw [if_neg hg0] at hH' hS'
                    refine Don.step (fun t q => stp.trans ?_) (ihk p l e s₀ m args below meth cd U (locs ++ Lc) h0 c _ ls (v'.toList ++ r) s1 v s' L hx hZ hown hnm hret hml hlk hs0 hdec hr' X' ⟨hH', I.2.1.app hF', I.2.2.1.trans hK', by rw [hS']; exact I.2.2.2⟩ hL hlen)
                    rw [List.map_append, hva] at q; exact q
                · rw [if_neg hla] at hr; cases hr
              · cases hr
            · cases hr
      -- the rest
      · split at hr
        · split at hr
          · cases hr
          · rename_i h1 hcf
            split at hr
            · rename_i w hw
              cases hr
              have hcf' : mi = 0 → c = P.al.length := fun q => Classical.byContradiction fun z => hcf ⟨q, z⟩
              have hA : HRep P Z T.heap adr (if mi = 0 then P.al.length else c) s := by
                by_cases q : mi = 0
                · rw [if_pos q, ← hcf' q]; exact I.1
                · rw [if_neg q]; exact I.1
              have hB : Array.size T.heap = if mi = 0 then adr + 1 + P.al.length else Array.size h0 := by
                rw [I.2.2.2]
                by_cases q : mi = 0
                · rw [if_pos q, if_pos q, ← hcf' q]
                · rw [if_neg q, if_neg q]
              have hC : co mi c ≤ (cRoom P mi me).cells := by
                simp only [co, cRoom]
                by_cases q : mi = 0
                · rw [if_pos q, if_pos q, ← hcf' q]; exact Nat.le_refl _
                · rw [if_neg q, if_neg q]; exact Nat.le_refl _
              have hD : zo P mi c ≤ (cRoom P mi me).slots := by
                simp only [zo, cRoom]
                by_cases q : mi = 0
                · rw [if_pos q, if_pos q]; exact zs_le _ _
                · rw [if_neg q, if_neg q]; exact Nat.le_refl _
              exact st_ret X hx hret hlk hw hd hn ⟨⟨rfl, cret_va hw⟩, I.2.1, hA, I.2.2.1, hB⟩ hC hD
            · cases hr
        · split at hr
          · rename_i pc' ls' st' hp
            obtain ⟨L', hL', hLs, st⟩ := pstep_sound X hx hp hd hn hL
            have hlen' : ls'.length = me.ml := by rw [← hL'.1, hLs, hL.1]; exact hlen
            exact Don.step st (ihk p l e s₀ m args below meth cd T locs h0 c _ ls' st' s v s' L' hx hZ hown hnm hret hml hlk hs0 hdec hr X I hL' hlen')
          · cases hr
end Jvm.LM

namespace Jvm.LM
open Sem ClassFile Op Lib Jvm.Stand Jvm.Free Jvm.LawKit Jvm.RoadKit
/-! the law's machine: several objects of the class, and one array of ints that it only reads -/
/-- class name, pool to own static method, pool to the class's method, pool index of the constructor, of the class, number of its fields, constants, methods, room: cells, slots -/
abbrev Lw := String × List (Nat × Nat) × List (Nat × Nat) × Nat × Nat × Nat × List (Nat × Value) × List (Nat × Me) × Nat × Nat
def Lw.nm (Q : Lw) : String := Q.1
def Lw.sx (Q : Lw) : List (Nat × Nat) := Q.2.1
def Lw.vx (Q : Lw) : List (Nat × Nat) := Q.2.2.1
def Lw.ci (Q : Lw) : Nat := Q.2.2.2.1
def Lw.cx (Q : Lw) : Nat := Q.2.2.2.2.1
def Lw.nf (Q : Lw) : Nat := Q.2.2.2.2.2.1
def Lw.kx (Q : Lw) : List (Nat × Value) := Q.2.2.2.2.2.2.1
def Lw.ms (Q : Lw) : List (Nat × Me) := Q.2.2.2.2.2.2.2.1
def Lw.rc (Q : Lw) : Nat := Q.2.2.2.2.2.2.2.2.1
def Lw.rs (Q : Lw) : Nat := Q.2.2.2.2.2.2.2.2.2
/-- the objects, how many are made, whether one more is being made -/
abbrev Wd := (Nat → St) × Nat × Bool
abbrev Sc := Option (Nat × (Nat → Int32))
abbrev Rw := Option (Option Value × Wd)
def nr : List Value → Bool
  | [] => true
  | .int _ :: r => nr r
  | .long _ :: r => nr r
  | _ => false
theorem nr_map {l : List Value} (h : nr l = true) (ρ : Nat → Nat) : l.map (va ρ) = l := by
  induction l with
  | nil => rfl
  | cons v r ih => cases v <;> first | (simp only [nr] at h; simp [va, ih h]; done) | (simp [nr] at h)
theorem nr_nd {l : List Value} (h : nr l = true) : nd l = true := by
  induction l with
  | nil => rfl
  | cons v r ih => cases v <;> first | (simp only [nr] at h; simp [nd, ih h]; done) | (simp [nr] at h)
def uo (w : Nat → St) (o : Nat) (s : St) : Nat → St := fun i => if i = o then s else w i
def lstep {α : Type} (P : Cl) (Q : Lw) (sc : Sc) (mi : Nat) (me : Me) (rt : Option Value → Wd → Option α) (cc : Nat → Nat → List Value → St → Rs) (cl : Nat → List Value → Wd → Rw) (k : Nat → Lv → List Value → Wd → Option α) (i : Instr) (pc : Nat) (ls : Lv) (st : List Value) (w : Wd) : Option α :=
  match i with
  | .iaload => match sc, st with
    | some (n, g), .int j :: .ref 0 :: r => if inb n j then k (pc + 1) ls (.int (g (ix j)) :: r) w else none
    | _, _ => none
  | .arraylength => match sc, st with
    | some (n, _), .ref 0 :: r => k (pc + 1) ls (.int (Int32.ofNat n) :: r) w
    | _, _ => none
  | .ldc x => match asc Q.kx x with | some (.int z) => k (pc + 2) ls (.int z :: st) w | _ => none
  | .ldc2_w x => match asc Q.kx x with | some (.long z) => k (pc + 3) ls (.long z :: st) w | _ => none
  | .new x => if mi = 0 ∧ x = Q.cx ∧ w.2.2 = false ∧ (w.2.1 + 1) * (P.al.length + 1) ≤ Q.rc ∧ (w.2.1 + 1) * (Q.nf + zs P.al P.al.length) ≤ Q.rs then
      k (pc + 3) ls (.ref (w.2.1 + 1) :: st) (uo w.1 w.2.1 s0, w.2.1, true) else none
  | .invokespecial x => match asc P.ms 0 with
    | none => none
    | some me' => match st.drop me'.na with
      | .ref (o + 1) :: r => if x = Q.ci ∧ mi = 0 ∧ o = w.2.1 ∧ w.2.2 = true ∧ me'.rf + 1 ≤ me.rf ∧ cats r + (me'.ml + 11) + me'.rl ≤ me.rl ∧ nr (st.take me'.na) = true ∧ (w.2.1 + 1) * (P.al.length + 1) ≤ Q.rc ∧ (w.2.1 + 1) * (Q.nf + zs P.al P.al.length) ≤ Q.rs then
          (match cc 0 0 (.ref 0 :: (st.take me'.na).reverse) (w.1 o) with
           | some (none, s') => k (pc + 3) ls r (uo w.1 o s', w.2.1 + 1, false)
           | _ => none) else none
      | _ => none
  | .invokevirtual x => match asc Q.vx x with
    | none => none
    | some m' => match asc P.ms m' with
      | none => none
      | some me' => match st.drop me'.na with
        | .ref (o + 1) :: r => if m' ≠ 0 ∧ o < w.2.1 ∧ me'.rf + 1 ≤ me.rf ∧ cats r + (me'.ml + 11) + me'.rl ≤ me.rl ∧ nr (st.take me'.na) = true then
            (match cc m' P.al.length (.ref 0 :: (st.take me'.na).reverse) (w.1 o) with
             | some (none, s') => k (pc + 3) ls r (uo w.1 o s', w.2.1, w.2.2)
             | some (some v, s') => k (pc + 3) ls (v :: r) (uo w.1 o s', w.2.1, w.2.2)
             | none => none) else none
        | _ => none
  | .invokestatic x => match asc Q.sx x with
    | none => none
    | some m' => match asc Q.ms m' with
      | none => none
      | some me' => if m' ≠ 0 ∧ me'.na ≤ st.length ∧ me'.rf + 1 ≤ me.rf ∧ cats (st.drop me'.na) + (me'.ml + 11) + me'.rl ≤ me.rl ∧ nd (st.take me'.na) = true then
          (match cl m' (st.take me'.na).reverse w with
           | some (none, w') => k (pc + 3) ls (st.drop me'.na) w'
           | some (some v, w') => k (pc + 3) ls (v :: st.drop me'.na) w'
           | none => none) else none
  | i => if isRet i = true then (match cret me st i with | some v => rt v w | none => none)
    else match pstep i pc ls st with | some (pc', ls', st') => k pc' ls' st' w | none => none
def lexec (P : Cl) (Q : Lw) (sc : Sc) : Nat → Nat → Me → Nat → Lv → List Value → Wd → Rw
  | 0, _, _, _, _, _, _ => none
  | f + 1, mi, me, pc, ls, st, w => match fetch me.cd pc with
    | none => none
    | some (i, _) => lstep P Q sc mi me (fun v w => some (v, w)) (ccall P f) (fun m' as w => match asc Q.ms m' with | some me' => (if (layA as).length ≤ me'.ml then lexec P Q sc f m' me' 0 (lay as me'.ml) [] w else none) | none => none) (lexec P Q sc f mi me) i pc ls st w
theorem lexec_cnt {P : Cl} {Q : Lw} {sc : Sc} : ∀ f mi me pc ls st w v w', mi ≠ 0 → lexec P Q sc f mi me pc ls st w = some (v, w') → w'.2 = w.2 := by
  intro f
  induction f with
  | zero => intro mi me pc ls st w v w' _ h; cases h
  | succ f ih =>
    intro mi me pc ls st w v w' h0 h
    simp only [lexec] at h
    split at h
    · cases h
    · unfold lstep at h
      split at h
      · split at h
        · split at h
          · exact ih _ _ _ _ _ _ _ _ h0 h
          · cases h
        · cases h
      · split at h
        · exact ih _ _ _ _ _ _ _ _ h0 h
        · cases h
      · split at h
        · exact ih _ _ _ _ _ _ _ _ h0 h
        · cases h
      · split at h
        · exact ih _ _ _ _ _ _ _ _ h0 h
        · cases h
      · split at h
        · rename_i q; exact absurd q.1 h0
        · cases h
      · split at h
        · cases h
        · split at h
          · split at h
            · rename_i q; exact absurd q.2.1 h0
            · cases h
          · cases h
      · split at h
        · cases h
        · split at h
          · cases h
          · split at h
            · split at h
              · split at h
                · exact (ih _ _ _ _ _ _ _ _ h0 h).trans rfl
                · exact (ih _ _ _ _ _ _ _ _ h0 h).trans rfl
                · cases h
              · cases h
            · cases h
      · split at h
        · cases h
        · split at h
          · cases h
          · rename_i me' hme'
            split at h
            · rename_i hg
              dsimp only at h
              rw [hme'] at h
              dsimp only at h
              split at h
              · rename_i w2 hc
                split at hc
                · exact (ih _ _ _ _ _ _ _ _ h0 h).trans (ih _ _ _ _ _ _ _ _ hg.1 hc)
                · cases hc
              · rename_i u w2 hc
                split at hc
                · exact (ih _ _ _ _ _ _ _ _ h0 h).trans (ih _ _ _ _ _ _ _ _ hg.1 hc)
                · cases hc
              · cases h
            · cases h
      · split at h
        · split at h
          · cases h; rfl
          · cases h
        · split at h
          · exact ih _ _ _ _ _ _ _ _ h0 h
          · cases h
def lcall (P : Cl) (Q : Lw) (sc : Sc) (f m' : Nat) (as : List Value) (w : Wd) : Rw := match asc Q.ms m' with | some me' => (if (layA as).length ≤ me'.ml then lexec P Q sc f m' me' 0 (lay as me'.ml) [] w else none) | none => none
def zOf (Q : Lw) (me : Me) : MethodName := ⟨Q.nm, me.nm, me.ds⟩
def LinkL (P : Cl) (Q : Lw) (Z : State) (a0 : Array Value) : Prop :=
  ((Cond.classLink Q.nm Q.cx P.nm).before a0 Z = true ∧ (Cond.instantiable P.nm Q.nf).before a0 Z = true) ∧
  (∀ me, asc P.ms 0 = some me → (Cond.methodLink Q.nm Q.ci (yOf P me)).before a0 Z = true ∧ (Cond.instanceMethod (yOf P me)).before a0 Z = true ∧ me.rt = 0) ∧
  (∀ x m', asc Q.vx x = some m' → ∀ me, asc P.ms m' = some me → (Cond.methodLink Q.nm x (yOf P me)).before a0 Z = true ∧ (Cond.declares (yOf P me)).before a0 Z = true ∧ (Cond.instanceMethod (yOf P me)).before a0 Z = true ∧ (Cond.selects P.nm (yOf P me) (yOf P me)).before a0 Z = true) ∧
  (∀ x m', asc Q.sx x = some m' → ∀ me, asc Q.ms m' = some me → (Cond.methodLink Q.nm x (zOf Q me)).before a0 Z = true ∧ (Cond.static (zOf Q me)).before a0 Z = true ∧ (Cond.initialized Q.nm).before a0 Z = true) ∧
  (∀ x v, asc Q.kx x = some v → match v with
    | .int z => (Cond.constant Q.nm x z).before a0 Z = true
    | .long z => (Cond.constantLong Q.nm x z).before a0 Z = true
    | _ => True) ∧
  (∀ mi me, asc Q.ms mi = some me → mi ≠ 0 → ∃ (bytes : ByteArray) (ps : List FieldType), (Cond.code (zOf Q me) bytes me.ml (retOf me.rt)).before a0 Z = true ∧
    (∀ pc i n, fetch me.cd pc = some (i, n) → decode bytes pc = .ok (i, n) ∧ (isSw i = true ∨ n = ilen i)) ∧ parseMethodDescriptor me.ds = some ⟨ps, retOf me.rt⟩ ∧ ps.length = me.na) ∧
  plainName Q.nm = true ∧ (Q.nm ≠ "java/lang/invoke/MethodHandle" ∧ Q.nm ≠ "java/lang/invoke/VarHandle")
def rho (a n0 K : Nat) : Nat → Nat
  | 0 => a
  | o + 1 => n0 + o * K
def SRep (Z : State) (h : Heap) (a n0 : Nat) (sc : Sc) : Prop :=
  match sc with
  | none => True
  | some (n, g) => a < n0 ∧ ∃ cl : Cell, Arr Z h a cl .int ∧ cl.slots.size = n ∧ ∀ i, i < n → cl.slots[i]? = some (.int (g i))
def LRep (P : Cl) (Z : State) (h : Heap) (a n0 : Nat) (sc : Sc) (w : Wd) : Prop :=
  SRep Z h a n0 sc ∧ (∀ o, o < w.2.1 → HRep P Z h (n0 + o * (P.al.length + 1)) P.al.length (w.1 o)) ∧
  (w.2.2 = true → HRep P Z h (n0 + w.2.1 * (P.al.length + 1)) 0 (w.1 w.2.1)) ∧ h.size = n0 + w.2.1 * (P.al.length + 1) + (if w.2.2 = true then 1 else 0)
def lRoom (Q : Lw) (mi : Nat) (me : Me) : Room := { frames := me.rf, cells := if mi = 0 then Q.rc else 0, slots := if mi = 0 then Q.rs else 0, locals := me.rl }
def QL (P : Cl) (Z : State) (a n0 : Nat) (sc : Sc) (v : Option Value) (w' : Wd) (u : Option Value) (h : Heap) (L : List Loc) : Prop :=
  (u = v ∧ ∀ ρ, u.toList.map (va ρ) = u.toList) ∧ Fr n0 L ∧ LRep P Z h a n0 sc w'
def lco (P : Cl) (mi : Nat) (w : Wd) : Nat := if mi = 0 then w.2.1 * (P.al.length + 1) + (if w.2.2 = true then 1 else 0) else 0
def lzo (P : Cl) (Q : Lw) (mi : Nat) (w : Wd) : Nat := if mi = 0 then w.2.1 * (Q.nf + zs P.al P.al.length) + (if w.2.2 = true then Q.nf else 0) else 0
def LW (P : Cl) (Q : Lw) (sc : Sc) (Z : State) (a n0 f mi : Nat) (me : Me) : Prop :=
  ∀ (p : Program) (l : Launch) (e : Env) (s₀ : State) (m : MethodId) (args : Array Value) (below : List Frame) (meth : Method) (cd : Code) (T : State) (locs : List Loc) (pc : Nat) (ls : Lv) (st : List Value) (w : Wd) (v : Option Value) (w' : Wd) (L : Array Slot),
    p.tables.exec = Jvm.exec → Z.Warmed39 s₀.vm → s₀.vm.findClass Q.nm = some m.cls → meth.sig.returnType = retOf me.rt → cd.maxLocals = me.ml → meth.locks = false → (mi = 0 → s₀.heap.size = n0) →
    (∀ pc i n, fetch me.cd pc = some (i, n) → decode cd.code pc = .ok (i, n) ∧ (isSw i = true ∨ n = ilen i)) →
    lexec P Q sc f mi me pc ls st w = some (v, w') →
    Stand p l e (lRoom Q mi me) s₀ m args below meth cd T locs (lco P mi w) (lzo P Q mi w) → w.2.1 * (P.al.length + 1) + (if w.2.2 = true then 1 else 0) ≤ (lRoom Q 0 me).cells → w.2.1 * (Q.nf + zs P.al P.al.length) + (if w.2.2 = true then Q.nf else 0) ≤ (lRoom Q 0 me).slots →
    LRep P Z T.heap a n0 sc w → Fr n0 locs → LR (rho a n0 (P.al.length + 1)) ls L → ls.length = me.ml →
    Don p e below s₀ (lRoom Q mi me) (QL P Z a n0 sc v w') (T.setTop (mkF m pc L (st.map (va (rho a n0 (P.al.length + 1))))))
theorem met_of_LW {P : Cl} {Q : Lw} {sc : Sc} {Z : State} {a0 : Array Value} (LL : LinkL P Q Z a0) {a n0 f mi : Nat} {me : Me} (hW : LW P Q sc Z a n0 f mi me) (hmi : mi ≠ 0) (l : Launch) {bytes : ByteArray}
    (hdec : ∀ pc i n, fetch me.cd pc = some (i, n) → decode bytes pc = .ok (i, n) ∧ (isSw i = true ∨ n = ilen i))
    {as : List Value} (hd : ∀ v ∈ as, ∀ x, v ≠ .double x) (hlen : (layA as).length ≤ me.ml) {w w' : Wd} {v : Option Value} {h : Heap} (hr : lexec P Q sc f mi me 0 (lay as me.ml) [] w = some (v, w'))
    (hc1 : w.2.1 * (P.al.length + 1) + (if w.2.2 = true then 1 else 0) ≤ Q.rc) (hc2 : w.2.1 * (Q.nf + zs P.al P.al.length) + (if w.2.2 = true then Q.nf else 0) ≤ Q.rs)
    (H : LRep P Z h a n0 sc w) :
    MetFree l (zOf Q me) (head1 [Cond.code (zOf Q me) bytes me.ml (retOf me.rt)] (lRoom Q mi me)) (fun b U => b = (as.map (va (rho a n0 (P.al.length + 1)))).toArray ∧ Z.Warmed39 U.vm ∧ U.heap = h) (fun _ _ _ _ _ => True)
      (fun _ U o U' => ∃ u L, o = .returned u ∧ QL P Z a n0 sc v w' u U'.heap L ∧ FrameEnd U o U' L (lRoom Q mi me).cells (lRoom Q mi me).slots) := by
  refine MetFree.of_bodySF (plainFor_of_name LL.2.2.2.2.2.2.1) hisR ?_
  intro p e s₀ m args below meth cd s₁ Bd hml hP hK
  obtain ⟨rfl, hZ, hh⟩ := hP
  have e0 : s₁.heap = h := by rw [← hh, Bd.state]; rfl
  have X0 : Stand p l e (lRoom Q mi me) s₀ m _ below meth cd s₁ [] 0 0 := Stand.of_body Bd
  have hown : s₀.vm.findClass Q.nm = some m.cls := findClass_of_methodNamed Bd.named
  have hk0 : lco P mi w = 0 := by simp [lco, hmi]
  have hz0 : lzo P Q mi w = 0 := by simp [lzo, hmi]
  have D := hW p l e s₀ m _ below meth cd s₁ [] 0 (lay as me.ml) [] w v w' _ Bd.exec hZ hown Bd.returns hml Bd.notSynchronized (fun q => absurd q hmi)
    (fun pc i n q => by rw [Bd.bytes]; exact hdec pc i n q) hr (by rw [hk0, hz0]; exact X0) (by simpa [lRoom] using hc1) (by simpa [lRoom] using hc2) (by rw [e0]; exact H) (Fr.nil n0) (lay_LR hd hlen) (lay_len hlen)
  obtain ⟨s₂, o, a1, a2, a3, u, L, a4, a5, a6⟩ := D
  exact ⟨s₂, o, a1, a2, a3, u, L, a4, a5, a6⟩
end Jvm.LM

namespace Jvm.LM
open Sem ClassFile Op Lib Jvm.Stand Jvm.Free Jvm.LawKit Jvm.RoadKit
theorem rng {a b K : Nat} (h : a < b) : a * K + K ≤ b * K := by
  have := Nat.mul_le_mul_right K (show a + 1 ≤ b from h)
  rw [Nat.succ_mul] at this; exact this
theorem SRep.congr {Z : State} {h h' : Heap} {a n0 : Nat} {sc : Sc} (H : SRep Z h a n0 sc) (e : ∀ x, x < n0 → h'[x]? = h[x]?) : SRep Z h' a n0 sc := by
  unfold SRep at H ⊢
  split
  · trivial
  · obtain ⟨h1, cl, ⟨q1, q2⟩, q3⟩ := H
    exact ⟨h1, cl, ⟨by rw [e a h1]; exact q1, q2⟩, q3⟩
/-- one object has moved, the others stand -/
theorem LRep.call {P : Cl} {Z : State} {h h' : Heap} {a n0 o : Nat} {sc : Sc} {w : Wd} {s' : St} (H : LRep P Z h a n0 sc w) (ho : o < w.2.1) (K : Kp h h' (n0 + o * (P.al.length + 1)) P.al.length) (hs : h'.size = h.size) (H' : HRep P Z h' (n0 + o * (P.al.length + 1)) P.al.length s') :
    LRep P Z h' a n0 sc (uo w.1 o s', w.2.1, w.2.2) := by
  obtain ⟨h1, h2, h3, h4⟩ := H
  refine ⟨h1.congr fun x hx => K x (Or.inl (by omega)), fun o' ho' => ?_, fun q => ?_, by rw [hs]; exact h4⟩
  · by_cases e : o' = o
    · subst e; simpa [uo] using H'
    · have := (h2 o' ho').congr (h' := h') fun x hx1 hx2 => K x (by
        rcases Nat.lt_or_gt_of_ne e with q | q
        · have := rng (K := P.al.length + 1) q; omega
        · have := rng (K := P.al.length + 1) q; omega)
      simpa [uo, e] using this
  · have e : w.2.1 ≠ o := by omega
    have := (h3 q).congr (h' := h') fun x hx1 hx2 => K x (by have := rng (K := P.al.length + 1) ho; omega)
    simpa [uo, e] using this
theorem ar1 {x k r y : Nat} (e : y = x + (k + 1)) (h : y ≤ r) : x + 1 + k ≤ r := by omega
theorem ar3 {x k y : Nat} (h : y = x + (k + 1)) : y + 0 = x + 1 + k := by omega
theorem ar4 {x f z y : Nat} (h : y = x + (f + z)) : y + 0 = x + f + z := by omega
theorem ar5 {x f z r y : Nat} (e : y = x + (f + z)) (h : y ≤ r) : x + f + z ≤ r := by omega
theorem ar6 {n x k y : Nat} (h : y = x + (k + 1)) : n + x + 1 + k = n + y + 0 := by omega
theorem lwalk {P : Cl} {Q : Lw} {sc : Sc} {Z : State} {a0 : Array Value} (LK : LinkC P Z a0) (LL : LinkL P Q Z a0) {a n0 : Nat} : ∀ f mi me, asc Q.ms mi = some me → LW P Q sc Z a n0 f mi me := by
  intro f
  induction f with
  | zero =>
    intro mi me hme p l e s₀ m args below meth cd T locs pc ls st w v w' L hx hZ hown hret hml hlk hs0 hdec hr
    cases hr
  | succ f ih =>
    intro mi me hme p l e s₀ m args below meth cd T locs pc ls st w v w' L hx hZ hown hret hml hlk hs0 hdec hr X hc1 hc2 I hFr hL hlen
    simp only [lexec] at hr
    split at hr
    · cases hr
    · rename_i i n hf
      obtain ⟨hd, hn⟩ := hdec pc i n hf
      have ihk := ih mi me hme
      have hsize : L.size = cd.maxLocals := by rw [hL.1, hlen, hml]
      unfold lstep at hr
      split at hr
      -- iaload
      · obtain rfl := hn.resolve_left Bool.false_ne_true
        split at hr
        · rename_i N g j r
          split at hr
          · rename_i hin
            obtain ⟨ha, cl, A, hN, hv⟩ : SRep Z T.heap a n0 (some (N, g)) := I.1
            refine Don.step (fun t q => ?_) (ihk p l e s₀ m args below meth cd T locs _ ls (.int (g (ix j)) :: r) w v w' L hx hZ hown hret hml hlk hs0 hdec hr X hc1 hc2 I hFr hL hlen)
            exact X.iaload hx A.1 (State.isArrayOf_alike hZ.alike A.2.1) A.2.2 (by rw [hN]; exact inb_not hin) (hv (ix j) (inb_ix hin)) (g := mkF m pc L (.int j :: .ref a :: r.map (va (rho a n0 (P.al.length + 1))))) rfl rfl hd t q
          · cases hr
        · cases hr
      -- arraylength
      · obtain rfl := hn.resolve_left Bool.false_ne_true
        split at hr
        · rename_i N g r
          obtain ⟨ha, cl, A, hN, hv⟩ : SRep Z T.heap a n0 (some (N, g)) := I.1
          refine Don.step (fun t q => ?_) (ihk p l e s₀ m args below meth cd T locs _ ls (.int (Int32.ofNat N) :: r) w v w' L hx hZ hown hret hml hlk hs0 hdec hr X hc1 hc2 I hFr hL hlen)
          exact X.arraylength hx A.1 (State.isArrayOf_alike hZ.alike A.2.1) (g := mkF m pc L (.ref a :: r.map (va (rho a n0 (P.al.length + 1))))) rfl rfl hd t (by rw [hN]; exact q)
        · cases hr
      -- constants
      · obtain rfl := hn.resolve_left Bool.false_ne_true
        split at hr
        · rename_i z hg
          exact Don.step (fun t q => X.ldcI hx hown (mv hZ (LL.2.2.2.2.1 _ _ hg)) (g := mkF m pc L (st.map (va (rho a n0 (P.al.length + 1))))) rfl hd q) (ihk p l e s₀ m args below meth cd T locs _ ls (.int z :: st) w v w' L hx hZ hown hret hml hlk hs0 hdec hr X hc1 hc2 I hFr hL hlen)
        · cases hr
      · obtain rfl := hn.resolve_left Bool.false_ne_true
        split at hr
        · rename_i z hg
          exact Don.step (fun t q => X.ldc2J hx hown (mv hZ (LL.2.2.2.2.1 _ _ hg)) (g := mkF m pc L (st.map (va (rho a n0 (P.al.length + 1))))) rfl hd q) (ihk p l e s₀ m args below meth cd T locs _ ls (.long z :: st) w v w' L hx hZ hown hret hml hlk hs0 hdec hr X hc1 hc2 I hFr hL hlen)
        · cases hr
      -- new
      · obtain rfl := hn.resolve_left Bool.false_ne_true
        split at hr
        · rename_i hg
          obtain ⟨rfl, rfl, hp, hg1, hg2⟩ := hg
          obtain ⟨os, cnt, pend⟩ := w
          dsimp only at hp hg1 hg2 hr
          subst hp
          have hk : lco P 0 (os, cnt, false) = cnt * (P.al.length + 1) := by simp [lco]
          have hz : lzo P Q 0 (os, cnt, false) = cnt * (Q.nf + zs P.al P.al.length) := by simp [lzo]
          have m1 : (cnt + 1) * (P.al.length + 1) = cnt * (P.al.length + 1) + (P.al.length + 1) := Nat.succ_mul ..
          have m2 : (cnt + 1) * (Q.nf + zs P.al P.al.length) = cnt * (Q.nf + zs P.al P.al.length) + (Q.nf + zs P.al P.al.length) := Nat.succ_mul ..
          rw [hk, hz] at X
          obtain ⟨T', h', X', q1, E, A, D, -, st1⟩ := newO X hx hZ hown LL.1.1 LL.1.2 LK.1.2 rfl (g := mkF m pc L (st.map (va (rho a n0 (P.al.length + 1))))) rfl hd (by simp only [lRoom, if_true]; omega) (by simp only [lRoom, if_true]; omega)
          obtain ⟨i1, i2, i3, i4⟩ := I
          have hsz : T.heap.size = n0 + cnt * (P.al.length + 1) := by simpa using i4
          have hsz' : h'.size = n0 + cnt * (P.al.length + 1) + 1 := by
            have g1 : T'.heap.size ≤ s₀.heap.size + (cnt * (P.al.length + 1) + 1) := X'.heapSize
            have g2 : T.heap.size < Array.size h' := A.lt
            rw [q1, hs0 rfl] at g1
            rw [hsz] at g2
            omega
          have same : ∀ x, x < T.heap.size → h'[x]? = T.heap[x]? := fun x hx => by
            obtain ⟨cc, hcc⟩ : ∃ cc, T.heap[x]? = some cc := ⟨T.heap[x], Array.getElem?_eq_getElem hx⟩
            rw [hcc]; exact E.2 _ _ hcc
          have I' : LRep P Z T'.heap a n0 sc (uo os cnt s0, cnt, true) := by
            rw [q1]
            refine ⟨i1.congr fun x hx => same x (by omega), fun o ho => ?_, fun _ => ?_, by simpa using hsz'⟩
            · have := (i2 o ho).congr (h' := h') fun x hx1 hx2 => same x (by have := rng (K := P.al.length + 1) (show o < cnt from ho); omega)
              simpa [uo, show o ≠ cnt from Nat.ne_of_lt ho] using this
            · simp only [uo, if_true]
              rw [hsz] at A D
              refine ⟨A, fun k fe hk => ?_, fun j tt N hj hc => absurd hc (Nat.not_lt_zero _), fun j i hj => ⟨rfl, rfl⟩, Nat.zero_le _⟩
              have q := D (laid_of LK hk) (LK.2.2.2.1 k fe hk)
              have e2 : Fval (n0 + cnt * (P.al.length + 1)) 0 s0 k fe = defaultValue (fkTy P fe.2.2.1) := by
                simp only [Fval]; split
                · rename_i e3; rw [e3]; rfl
                · rename_i e3; rw [e3]; rfl
                · rename_i e3; rw [e3]; rfl
                · rename_i e3; rw [e3]; rfl
              rw [e2]; exact q
          refine Don.step (fun t q => st1 t ?_) (ihk p l e s₀ m args below meth cd T' locs _ ls (.ref (cnt + 1) :: st) _ v w' L hx hZ hown hret hml hlk hs0 hdec hr (by simpa [lco, lzo] using X') (by simp only [lRoom, if_true]; omega) (by simp only [lRoom, if_true]; omega) I' hFr hL hlen)
          rw [hsz]; exact q
        · cases hr
      -- the constructor
      · obtain rfl := hn.resolve_left Bool.false_ne_true
        split at hr
        · cases hr
        · rename_i me' hme'
          split at hr
          · rename_i o r hst
            split at hr
            · rename_i hg
              obtain ⟨rfl, rfl, hgo, hp, hg1, hg2, hg3, hg4, hg5⟩ := hg
              obtain ⟨os, cnt, pend⟩ := w
              dsimp only at hgo hp hg1 hg2 hr hg4 hg5
              subst hp hgo
              obtain ⟨bytes, ps, hcode, hdec', hpar, hpl⟩ := LK.2.2.2.2.2.2.2.2.1 0 me' hme'
              obtain ⟨w1, w2, hrt⟩ := LL.2.1 me' hme'
              have hcode' := hcode
              rw [hrt] at hcode'
              have hini := LK.2.2.2.2.2.2.2.2.2.2.2.2 me' hme'
              have m1 : (o + 1) * (P.al.length + 1) = o * (P.al.length + 1) + (P.al.length + 1) := Nat.succ_mul ..
              have m2 : (o + 1) * (Q.nf + zs P.al P.al.length) = o * (Q.nf + zs P.al P.al.length) + (Q.nf + zs P.al P.al.length) := Nat.succ_mul ..
              simp only [ccall, hme'] at hr
              by_cases hla : (layA (Value.ref 0 :: (st.take me'.na).reverse)).length ≤ me'.ml
              · rw [if_pos hla] at hr
                cases hcl : cexec P f 0 me' 0 0 (lay (.ref 0 :: (st.take me'.na).reverse) me'.ml) [] (os o) with
                | none => rw [hcl] at hr; cases hr
                | some vs =>
                  obtain ⟨u, s1⟩ := vs
                  rw [hcl] at hr
                  cases u with
                  | some u => cases hr
                  | none =>
                    dsimp only at hr
                    obtain ⟨i1, i2, i3, i4⟩ := I
                    have hsz : T.heap.size = n0 + o * (P.al.length + 1) + 1 := by simpa using i4
                    have hM := met_of_CW LK hme' (cwalk LK (n0 := n0) (adr := n0 + o * (P.al.length + 1)) (Nat.le_add_right _ _) f 0 me' hme') l hdec' (as := .ref 0 :: (st.take me'.na).reverse) (nd_rev (ρ := id) (nr_nd hg3)) hla hcl (fun _ => rfl) (i3 rfl) (fun _ => hsz)
                    have hB := backOf (R := lRoom Q 0 me) (p := p) (e := e) (below := below) (s := s₀) (args := args) (len := 3) (W := cats r) hM hZ hcode LK.1.2 hg1 hg2
                    have hdl : me'.na < st.length := by
                      have := congrArg List.length hst
                      simp at this; omega
                    have hsp : st = st.take me'.na ++ .ref (o + 1) :: r := by rw [← hst, List.take_append_drop]
                    have hrv : ∀ ρ : Nat → Nat, (st.take me'.na).reverse.map (va ρ) = (st.take me'.na).reverse := fun ρ => by rw [List.map_reverse, nr_map hg3]
                    have hsm : st.map (va (rho a n0 (P.al.length + 1))) = ((st.take me'.na).reverse).reverse ++ .ref (n0 + o * (P.al.length + 1)) :: r.map (va (rho a n0 (P.al.length + 1))) := by
                      conv => lhs; rw [hsp]
                      rw [List.map_append, nr_map hg3]; simp [va, rho]
                    have hll : ∀ sig, parseMethodDescriptor (yOf P me').desc = some sig → ((st.take me'.na).reverse).length = sig.parameters.length := lenOf hpar (by simp [hpl]; omega)
                    have hk : lco P 0 (os, o, true) = o * (P.al.length + 1) + 1 := by simp [lco]
                    have hz : lzo P Q 0 (os, o, true) = o * (Q.nf + zs P.al P.al.length) + Q.nf := by simp [lzo]
                    rw [hk, hz] at X
                    have hpre : ∀ vm₁, s₀.WarmedH vm₁ → ((Value.ref (n0 + o * (P.al.length + 1)) :: (st.take me'.na).reverse).toArray = ((Value.ref 0 :: (st.take me'.na).reverse).map (va ((n0 + o * (P.al.length + 1)) + ·))).toArray ∧ (T.setVm vm₁).heap = T.heap ∧ o * (P.al.length + 1) + 1 + (cRoom P 0 me').cells ≤ (lRoom Q 0 me).cells ∧ o * (Q.nf + zs P.al P.al.length) + Q.nf + (cRoom P 0 me').slots ≤ (lRoom Q 0 me).slots) := fun vm₁ _ => by
                      refine ⟨by rw [List.map_cons, hrv]; rfl, rfl, ?_, ?_⟩
                      · show o * (P.al.length + 1) + 1 + P.al.length ≤ Q.rc
                        exact ar1 m1 hg4
                      · show o * (Q.nf + zs P.al P.al.length) + Q.nf + zs P.al P.al.length ≤ Q.rs
                        exact ar5 m2 hg5
                    obtain ⟨v', vm₁, ⟨U, lo, ce, sl⟩, -, X', ⟨Lc, hQ, l1, l2, l3⟩, stp⟩ := X.specialBack hx (y := yOf P me') hini hown (mv hZ w1) (mv hZ w2) (mv hZ hcode') LK.2.2.2.2.2.2.2.2.2.2.2.1 hB (g := mkF m pc L (st.map (va (rho a n0 (P.al.length + 1))))) rfl hsize (Steps.refl _) hll hsm (by show 2 * 0 + _ ≤ _; rw [cats_va]; omega) hd hpre
                    dsimp only [Pt.U, Pt.locs, Pt.cells, Pt.slots] at X' hQ l1 l2 l3 stp
                    subst l1 l2 l3
                    obtain ⟨⟨rfl, -⟩, hF', hH', hK', hS'⟩ := hQ
                    rw [if_pos rfl] at hH' hS'
                    have I' : LRep P Z U.heap a n0 sc (uo os o s1, o + 1, false) := by
                      refine ⟨i1.congr fun x hx => hK' x (Or.inl (by omega)), fun o' ho' => ?_, fun q => by simp at q, by rw [hS']; show n0 + o * (P.al.length + 1) + 1 + P.al.length = n0 + (o + 1) * (P.al.length + 1) + 0; exact ar6 m1⟩
                      by_cases e2 : o' = o
                      · subst e2; simpa [uo] using hH'
                      · have ho2 : o' < o := by have : o' < o + 1 := ho'; omega
                        have := (i2 o' ho2).congr (h' := U.heap) fun x hx1 hx2 => hK' x (by have := rng (K := P.al.length + 1) ho2; omega)
                        simpa [uo, e2] using this
                    refine Don.step (fun t q => stp.trans q) (ihk p l e s₀ m args below meth cd U (locs ++ Lc) _ ls r _ v w' L hx hZ hown hret hml hlk hs0 hdec hr ?_ (by show (o + 1) * (P.al.length + 1) + 0 ≤ Q.rc; omega) (by show (o + 1) * (Q.nf + zs P.al P.al.length) + 0 ≤ Q.rs; omega) I' (hFr.app hF') hL hlen)
                    have h1 : lco P 0 (uo os o s1, o + 1, false) = o * (P.al.length + 1) + 1 + (cRoom P 0 me').cells := by
                      show (o + 1) * (P.al.length + 1) + 0 = o * (P.al.length + 1) + 1 + P.al.length
                      exact ar3 m1
                    have h2 : lzo P Q 0 (uo os o s1, o + 1, false) = o * (Q.nf + zs P.al P.al.length) + Q.nf + (cRoom P 0 me').slots := by
                      show (o + 1) * (Q.nf + zs P.al P.al.length) + 0 = o * (Q.nf + zs P.al P.al.length) + Q.nf + zs P.al P.al.length
                      exact ar4 m2
                    rw [h1, h2]; exact X'
              · rw [if_neg hla] at hr; cases hr
            · cases hr
          · cases hr
      -- a method of the class
      · obtain rfl := hn.resolve_left Bool.false_ne_true
        split at hr
        · cases hr
        · rename_i m' hm'
          split at hr
          · cases hr
          · rename_i me' hme'
            split at hr
            · rename_i o r hst
              split at hr
              · rename_i hg
                obtain ⟨hg0, hgo, hg1, hg2, hg3⟩ := hg
                obtain ⟨bytes, ps, hcode, hdec', hpar, hpl⟩ := LK.2.2.2.2.2.2.2.2.1 m' me' hme'
                obtain ⟨w1, w2, w3, w4⟩ := LL.2.2.1 _ _ hm' me' hme'
                simp only [ccall, hme'] at hr
                by_cases hla : (layA (Value.ref 0 :: (st.take me'.na).reverse)).length ≤ me'.ml
                · rw [if_pos hla] at hr
                  cases hcl : cexec P f m' me' P.al.length 0 (lay (.ref 0 :: (st.take me'.na).reverse) me'.ml) [] (w.1 o) with
                  | none => rw [hcl] at hr; cases hr
                  | some vs =>
                    obtain ⟨u, s1⟩ := vs
                    rw [hcl] at hr
                    have hr' : lexec P Q sc f mi me (pc + 3) ls (u.toList ++ r) (uo w.1 o s1, w.2.1, w.2.2) = some (v, w') := by cases u <;> exact hr
                    have hM := met_of_CW LK hme' (cwalk LK (n0 := n0) (adr := n0 + o * (P.al.length + 1)) (Nat.le_add_right _ _) f m' me' hme') l hdec' (as := .ref 0 :: (st.take me'.na).reverse) (nd_rev (ρ := id) (nr_nd hg3)) hla hcl (fun q => absurd q hg0) (I.2.1 o hgo) (fun q => absurd q hg0)
                    have hB := backOf (R := lRoom Q mi me) (p := p) (e := e) (below := below) (s := s₀) (args := args) (len := 3) (W := cats r) hM hZ hcode LK.1.2 hg1 hg2
                    have hdl : me'.na < st.length := by
                      have := congrArg List.length hst
                      simp at this; omega
                    have hsp : st = st.take me'.na ++ .ref (o + 1) :: r := by rw [← hst, List.take_append_drop]
                    have hrv : ∀ ρ : Nat → Nat, (st.take me'.na).reverse.map (va ρ) = (st.take me'.na).reverse := fun ρ => by rw [List.map_reverse, nr_map hg3]
                    have hsm : st.map (va (rho a n0 (P.al.length + 1))) = ((st.take me'.na).reverse).reverse ++ .ref (n0 + o * (P.al.length + 1)) :: r.map (va (rho a n0 (P.al.length + 1))) := by
                      conv => lhs; rw [hsp]
                      rw [List.map_append, nr_map hg3]; simp [va, rho]
                    have hll : ∀ sig, parseMethodDescriptor (yOf P me').desc = some sig → ((st.take me'.na).reverse).length = sig.parameters.length := lenOf hpar (by simp [hpl]; omega)
                    have hz1 : (cRoom P m' me').cells = 0 := by simp [cRoom, hg0]
                    have hz2 : (cRoom P m' me').slots = 0 := by simp [cRoom, hg0]
                    have hpre : ∀ vm₁, s₀.WarmedH vm₁ → ((Value.ref (n0 + o * (P.al.length + 1)) :: (st.take me'.na).reverse).toArray = ((Value.ref 0 :: (st.take me'.na).reverse).map (va ((n0 + o * (P.al.length + 1)) + ·))).toArray ∧ (T.setVm vm₁).heap = T.heap ∧ lco P mi w + (cRoom P m' me').cells ≤ (lRoom Q mi me).cells ∧ lzo P Q mi w + (cRoom P m' me').slots ≤ (lRoom Q mi me).slots) := fun vm₁ _ => by
                      refine ⟨by rw [List.map_cons, hrv]; rfl, rfl, ?_, ?_⟩
                      · rw [hz1]; simp only [lco, lRoom] at *; split
                        · simpa using hc1
                        · exact Nat.le_refl _
                      · rw [hz2]; simp only [lzo, lRoom] at *; split
                        · simpa using hc2
                        · exact Nat.le_refl _
                    obtain ⟨cq, kq, qa, qb, qc⟩ := isOf hZ rfl (I.2.1 o hgo).1
                    obtain ⟨v', vm₁, ⟨U, lo, ce, sl⟩, -, X', ⟨Lc, hQ, l1, l2, l3⟩, stp⟩ := X.virtualBack hx (y := yOf P me') (z := yOf P me') hown (mv hZ w1) (mv hZ w2) (notFace_of_selects (args := #[]) (mv hZ w4)) (mv hZ w4) (mv hZ w3) LK.2.2.2.2.2.2.2.2.2.2.2.1 hB qa qc (g := mkF m pc L (st.map (va (rho a n0 (P.al.length + 1))))) rfl hsize (Steps.refl _) hll hsm (by show 2 * 0 + _ ≤ _; rw [cats_va]; omega) hd hpre
                    dsimp only [Pt.U, Pt.locs, Pt.cells, Pt.slots] at X' hQ l1 l2 l3 stp
                    subst l1 l2 l3
                    obtain ⟨⟨rfl, hva⟩, hF', hH', hK', hS'⟩ := hQ
                    rw [if_neg hg0] at hH' hS'
                    rw [hz1, hz2] at X'
                    refine Don.step (fun t q => stp.trans ?_) (ihk p l e s₀ m args below meth cd U (locs ++ Lc) _ ls (v'.toList ++ r) _ v w' L hx hZ hown hret hml hlk hs0 hdec hr' X' hc1 hc2 (I.call hgo hK' hS' hH') (hFr.app hF') hL hlen)
                    rw [List.map_append, hva] at q; exact q
                · rw [if_neg hla] at hr; cases hr
              · cases hr
            · cases hr
      -- a static method of the law
      · obtain rfl := hn.resolve_left Bool.false_ne_true
        split at hr
        · cases hr
        · rename_i m' hm'
          split at hr
          · cases hr
          · rename_i me' hme'
            split at hr
            · rename_i hg
              obtain ⟨hg0, hgn, hg1, hg2, hg3⟩ := hg
              obtain ⟨bytes, ps, hcode, hdec', hpar, hpl⟩ := LL.2.2.2.2.2.1 m' me' hme' hg0
              obtain ⟨w1, w2, w3⟩ := LL.2.2.2.1 _ _ hm' me' hme'
              dsimp only at hr
              rw [hme'] at hr
              dsimp only at hr
              by_cases hla : (layA (st.take me'.na).reverse).length ≤ me'.ml
              · rw [if_pos hla] at hr
                cases hcl : lexec P Q sc f m' me' 0 (lay (st.take me'.na).reverse me'.ml) [] w with
                | none => rw [hcl] at hr; cases hr
                | some vs =>
                  obtain ⟨u, w2'⟩ := vs
                  rw [hcl] at hr
                  have hr' : lexec P Q sc f mi me (pc + 3) ls (u.toList ++ st.drop me'.na) w2' = some (v, w') := by cases u <;> exact hr
                  have hndv : ∀ v ∈ (st.take me'.na).reverse, ∀ x, v ≠ .double x := fun v hv x e => nd_spec hg3 v (List.mem_reverse.mp hv) x e
                  have hM := met_of_LW LL (ih m' me' hme') hg0 l hdec' (as := (st.take me'.na).reverse) hndv hla hcl (by simpa [lRoom] using hc1) (by simpa [lRoom] using hc2) I
                  have hB := backOf (R := lRoom Q mi me) (p := p) (e := e) (below := below) (s := s₀) (args := args) (len := 3) (W := cats (st.drop me'.na)) hM hZ hcode w3 hg1 hg2
                  have hsm : st.map (va (rho a n0 (P.al.length + 1))) = (((st.take me'.na).reverse).map (va (rho a n0 (P.al.length + 1)))).reverse ++ (st.drop me'.na).map (va (rho a n0 (P.al.length + 1))) := by
                    conv => lhs; rw [← List.take_append_drop me'.na st]
                    simp
                  have hll : ∀ sig, parseMethodDescriptor (zOf Q me').desc = some sig → (((st.take me'.na).reverse).map (va (rho a n0 (P.al.length + 1)))).length = sig.parameters.length := lenOf hpar (by simp [hpl]; omega)
                  have hz1 : (lRoom Q m' me').cells = 0 := by simp [lRoom, hg0]
                  have hz2 : (lRoom Q m' me').slots = 0 := by simp [lRoom, hg0]
                  have hpre : ∀ vm₁, s₀.WarmedH vm₁ → ((((st.take me'.na).reverse).map (va (rho a n0 (P.al.length + 1)))).toArray = (((st.take me'.na).reverse).map (va (rho a n0 (P.al.length + 1)))).toArray ∧ (T.setVm vm₁).heap = T.heap ∧ lco P mi w + (lRoom Q m' me').cells ≤ (lRoom Q mi me).cells ∧ lzo P Q mi w + (lRoom Q m' me').slots ≤ (lRoom Q mi me).slots) := fun vm₁ _ => by
                    refine ⟨rfl, rfl, ?_, ?_⟩
                    · rw [hz1]; simp only [lco, lRoom] at *; split
                      · simpa using hc1
                      · exact Nat.le_refl _
                    · rw [hz2]; simp only [lzo, lRoom] at *; split
                      · simpa using hc2
                      · exact Nat.le_refl _
                  obtain ⟨v', vm₁, ⟨U, lo, ce, sl⟩, -, X', ⟨Lc, hQ, l1, l2, l3⟩, stp⟩ := Jvm.LawKit.callS X hx (y := zOf Q me') hown (mv hZ w1) (mv hZ w2) (mv hZ w3) (mv hZ hcode) LL.2.2.2.2.2.2.2 hB (g := mkF m pc L (st.map (va (rho a n0 (P.al.length + 1))))) rfl hsize hll hsm (by show 2 * 0 + _ ≤ _; rw [cats_va]; omega) hd hpre
                  dsimp only [Pt.U, Pt.locs, Pt.cells, Pt.slots] at X' hQ l1 l2 l3 stp
                  subst l1 l2 l3
                  obtain ⟨⟨rfl, hva⟩, hF', hI'⟩ := hQ
                  rw [hz1, hz2] at X'
                  have hcn := lexec_cnt _ _ _ _ _ _ _ _ _ hg0 hcl
                  have e1 : lco P mi w2' = lco P mi w := by simp only [lco, hcn]
                  have e2 : lzo P Q mi w2' = lzo P Q mi w := by simp only [lzo, hcn]
                  refine Don.step (fun t q => stp t ?_) (ihk p l e s₀ m args below meth cd U (locs ++ Lc) _ ls (v'.toList ++ st.drop me'.na) _ v w' L hx hZ hown hret hml hlk hs0 hdec hr' (by rw [e1, e2]; exact X') (by rw [hcn]; exact hc1) (by rw [hcn]; exact hc2) hI' (hFr.app hF') hL hlen)
                  rw [List.map_append, hva] at q; exact q
              · rw [if_neg hla] at hr; cases hr
            · cases hr
      -- the rest
      · split at hr
        · split at hr
          · rename_i u hu
            cases hr
            refine st_ret X hx hret hlk hu hd hn ⟨⟨rfl, cret_va hu⟩, hFr, I⟩ ?_ ?_
            · simp only [lco, lRoom] at *; split
              · simpa using hc1
              · exact Nat.le_refl _
            · simp only [lzo, lRoom] at *; split
              · simpa using hc2
              · exact Nat.le_refl _
          · cases hr
        · split at hr
          · rename_i pc' ls' st' hp
            obtain ⟨L', hL', hLs, st⟩ := pstep_sound X hx hp hd hn hL
            have hlen' : ls'.length = me.ml := by rw [← hL'.1, hLs, hL.1]; exact hlen
            exact Don.step st (ihk p l e s₀ m args below meth cd T locs _ ls' st' w v w' L' hx hZ hown hret hml hlk hs0 hdec hr X hc1 hc2 I hFr hL' hlen')
          · cases hr
/-- the law as a whole: what the machine returns, the program returns -/
theorem law_met {P : Cl} {Q : Lw} {sc : Sc} {Z : State} {a0 : Array Value} (LK : LinkC P Z a0) (LL : LinkL P Q Z a0) {a f : Nat} {me : Me} (hme : asc Q.ms 0 = some me) (l : Launch) {bytes : ByteArray} {ws : List Cond}
    (hdec : ∀ pc i n, fetch me.cd pc = some (i, n) → decode bytes pc = .ok (i, n) ∧ (isSw i = true ∨ n = ilen i))
    {as : List Value} (hnd : nd as = true) (hlen : (layA as).length ≤ me.ml) {v : Option Value} {w' : Wd} {h : Heap} (hr : lexec P Q sc f 0 me 0 (lay as me.ml) [] (fun _ => s0, 0, false) = some (v, w')) (hS : SRep Z h a h.size sc) :
    MetFree l (zOf Q me) (head1 (Cond.code (zOf Q me) bytes me.ml (retOf me.rt) :: ws) (lRoom Q 0 me)) (fun b U => b = (as.map (va (rho a h.size (P.al.length + 1)))).toArray ∧ Z.Warmed39 U.vm ∧ U.heap = h) (fun _ _ _ _ _ => True)
      (fun _ U o U' => ∃ u L, o = .returned u ∧ (u = v ∧ Fr h.size L) ∧ FrameEnd U o U' L Q.rc Q.rs) := by
  refine MetFree.of_bodySF (plainFor_of_name LL.2.2.2.2.2.2.1) hisR ?_
  intro p e s₀ m args below meth cd s₁ Bd hml hP hK
  obtain ⟨rfl, hZ, hh⟩ := hP
  have e0 : s₁.heap = h := by rw [← hh, Bd.state]; rfl
  have X0 : Stand p l e (lRoom Q 0 me) s₀ m _ below meth cd s₁ [] 0 0 := Stand.of_body Bd
  have hown : s₀.vm.findClass Q.nm = some m.cls := findClass_of_methodNamed Bd.named
  have hk0 : lco P 0 (fun _ => s0, 0, false) = 0 := by simp [lco]
  have hz0 : lzo P Q 0 (fun _ => s0, 0, false) = 0 := by simp [lzo]
  have D := lwalk LK LL (sc := sc) (a := a) (n0 := h.size) f 0 me hme p l e s₀ m _ below meth cd s₁ [] 0 (lay as me.ml) [] (fun _ => s0, 0, false) v w' _ Bd.exec hZ hown Bd.returns hml Bd.notSynchronized (fun _ => by rw [hh])
    (fun pc i n q => by rw [Bd.bytes]; exact hdec pc i n q) hr (by rw [hk0, hz0]; exact X0) (by simp) (by simp) (by
      rw [e0]; exact ⟨hS, fun o ho => absurd ho (Nat.not_lt_zero _), fun q => by simp at q, by simp⟩) (Fr.nil _) (lay_LR (nd_spec hnd) hlen) (lay_len hlen)
  obtain ⟨s₂, o, a1, a2, a3, u, L, a4, a5, a6⟩ := D
  refine ⟨s₂, o, a1, a2, a3, u, L, a4, ⟨a5.1.1, a5.2.1⟩, ?_⟩
  simpa [lRoom] using a6
end Jvm.LM

namespace Jvm.LM
open Sem ClassFile Op Lib Jvm.Stand Jvm.Free Jvm.LawKit Jvm.RoadKit
/-! what a run of the machine comes to -/
theorem cstep_mono {α : Type} {P : Cl} {mi : Nat} {me : Me} {rt : Option Value → St → Option α} {cl cl' : Nat → Nat → List Value → St → Rs} {k k' : Nat → Nat → Lv → List Value → St → Option α} {i : Instr} {c pc : Nat} {ls : Lv} {st : List Value} {s : St} {r : α}
    (hcl : ∀ m c as s r, cl m c as s = some r → cl' m c as s = some r) (hk : ∀ c pc ls st s r, k c pc ls st s = some r → k' c pc ls st s = some r) (h : cstep P mi me rt cl k i c pc ls st s = some r) : cstep P mi me rt cl' k' i c pc ls st s = some r := by
  unfold cstep at h ⊢
  split at h
  all_goals (try dsimp only)
  · split at h
    · split at h
      · exact hk _ _ _ _ _ _ h
      · cases h
    · cases h
  · split at h
    · split at h
      · exact hk _ _ _ _ _ _ h
      · cases h
    · cases h
  · split at h
    · exact hk _ _ _ _ _ _ h
    · cases h
  · split at h
    · exact hk _ _ _ _ _ _ h
    · cases h
  · split at h
    · exact hk _ _ _ _ _ _ h
    · cases h
  · split at h
    · exact hk _ _ _ _ _ _ h
    · cases h
  · split at h
    · exact hk _ _ _ _ _ _ h
    · cases h
  · split at h
    · exact hk _ _ _ _ _ _ h
    · cases h
  · split at h
    · rename_i q; rw [if_pos q]; exact hk _ _ _ _ _ _ h
    · cases h
  · split at h
    · exact hk _ _ _ _ _ _ h
    · cases h
  · split at h
    · exact hk _ _ _ _ _ _ h
    · cases h
  · split at h
    · split at h
      · rename_i q; rw [if_pos q]; exact hk _ _ _ _ _ _ h
      · cases h
    · cases h
  · split at h
    · cases h
    · rename_i m' hm'
      split at h
      · cases h
      · rename_i me' hme'
        split at h
        · rename_i r0 hst
          split at h
          · rename_i q
            rw [if_pos q]
            split at h
            · rename_i s1 hc; rw [hcl _ _ _ _ _ hc]; exact hk _ _ _ _ _ _ h
            · rename_i v1 s1 hc; rw [hcl _ _ _ _ _ hc]; exact hk _ _ _ _ _ _ h
            · cases h
          · cases h
        · cases h
  · split at h
    · rename_i q; rw [if_pos q]; exact h
    · rename_i q; rw [if_neg q]
      split at h
      · exact hk _ _ _ _ _ _ h
      · cases h
theorem cexec_succ {P : Cl} : ∀ f mi me c pc ls st s r, cexec P f mi me c pc ls st s = some r → cexec P (f + 1) mi me c pc ls st s = some r := by
  intro f
  induction f with
  | zero => intro mi me c pc ls st s r h; cases h
  | succ f ih =>
    intro mi me c pc ls st s r h
    rw [cexec] at h ⊢
    split at h
    · cases h
    · refine cstep_mono (fun m c as s r h => ?_) (fun c pc ls st s r h => ih _ _ _ _ _ _ _ _ h) h
      split at h
      · split at h
        · rename_i q; rw [if_pos q]; exact ih _ _ _ _ _ _ _ _ h
        · cases h
      · cases h
theorem cexec_le {P : Cl} {f g mi : Nat} {me : Me} {c pc : Nat} {ls : Lv} {st : List Value} {s : St} {r : Option Value × St} (hfg : f ≤ g) (h : cexec P f mi me c pc ls st s = some r) : cexec P g mi me c pc ls st s = some r := by
  obtain ⟨d, rfl⟩ := Nat.le.dest hfg
  induction d with
  | zero => exact h
  | succ d ih => exact cexec_succ _ _ _ _ _ _ _ _ _ (ih (Nat.le_add_right _ _))
theorem ccall_le {P : Cl} {f g m' c : Nat} {as : List Value} {s : St} {r : Option Value × St} (hfg : f ≤ g) (h : ccall P f m' c as s = some r) : ccall P g m' c as s = some r := by
  unfold ccall at h ⊢
  split at h
  · split at h
    · rename_i q; rw [if_pos q]; exact cexec_le hfg h
    · cases h
  · cases h
def wpc (P : Cl) (mi : Nat) (me : Me) (c pc : Nat) (ls : Lv) (st : List Value) (s : St) (Q : Option Value → St → Prop) : Prop := ∃ f v s', cexec P f mi me c pc ls st s = some (v, s') ∧ Q v s'
def cal (P : Cl) (m' c : Nat) (as : List Value) (s : St) (Q : Option Value → St → Prop) : Prop := ∃ f v s', ccall P f m' c as s = some (v, s') ∧ Q v s'
def calI (P : Cl) (m' c : Nat) (as : List Value) (s : St) (Q : Int32 → St → Prop) : Prop := cal P m' c as s fun r s' => ∃ v, r = some (.int v) ∧ Q v s'
def calL (P : Cl) (m' c : Nat) (as : List Value) (s : St) (Q : Int64 → St → Prop) : Prop := cal P m' c as s fun r s' => ∃ v, r = some (.long v) ∧ Q v s'
def calV (P : Cl) (m' c : Nat) (as : List Value) (s : St) (Q : St → Prop) : Prop := cal P m' c as s fun r s' => r = none ∧ Q s'
theorem cstep_nat {α : Type} {P : Cl} {mi : Nat} {me : Me} {k : Nat → Nat → Lv → List Value → St → Option α} {i : Instr} {c pc : Nat} {ls : Lv} {st : List Value} {s : St} {x : α}
    (h : cstep P mi me (fun _ _ => none) (fun _ _ _ _ => none) k i c pc ls st s = some x) : ∃ c' pc' ls' st' s', k c' pc' ls' st' s' = some x ∧ ∀ (β : Type) (rt : Option Value → St → Option β) cl (k' : Nat → Nat → Lv → List Value → St → Option β), cstep P mi me rt cl k' i c pc ls st s = k' c' pc' ls' st' s' := by
  unfold cstep at h
  split at h
  · split at h
    · split at h
      · rename_i q; exact ⟨_, _, _, _, _, h, fun β rt cl k' => by simp only [cstep, q]⟩
      · cases h
    · cases h
  · split at h
    · split at h
      · rename_i q; exact ⟨_, _, _, _, _, h, fun β rt cl k' => by simp only [cstep, q]⟩
      · cases h
    · cases h
  · split at h
    · rename_i q; exact ⟨_, _, _, _, _, h, fun β rt cl k' => by simp only [cstep, q]⟩
    · cases h
  · split at h
    · rename_i q; exact ⟨_, _, _, _, _, h, fun β rt cl k' => by simp only [cstep, q]⟩
    · cases h
  · split at h
    · rename_i q; exact ⟨_, _, _, _, _, h, fun β rt cl k' => by simp only [cstep, q]⟩
    · cases h
  · split at h
    · rename_i q; exact ⟨_, _, _, _, _, h, fun β rt cl k' => by simp only [cstep, q]⟩
    · cases h
  · split at h
    · rename_i q; exact ⟨_, _, _, _, _, h, fun β rt cl k' => by simp only [cstep, q]⟩
    · cases h
  · split at h
    · rename_i q; exact ⟨_, _, _, _, _, h, fun β rt cl k' => by simp only [cstep, q]⟩
    · cases h
  · split at h
    · rename_i q; exact ⟨_, _, _, _, _, h, fun β rt cl k' => by simp only [cstep]; rw [if_pos q]⟩
    · cases h
  · split at h
    · rename_i q; exact ⟨_, _, _, _, _, h, fun β rt cl k' => by simp only [cstep, q]⟩
    · cases h
  · split at h
    · rename_i q; exact ⟨_, _, _, _, _, h, fun β rt cl k' => by simp only [cstep, q]⟩
    · cases h
  · split at h
    · split at h
      · rename_i q; exact ⟨_, _, _, _, _, h, fun β rt cl k' => by simp only [cstep]; rw [if_pos q]⟩
      · cases h
    · cases h
  · split at h
    · cases h
    · split at h
      · cases h
      · split at h
        · split at h
          · cases h
          · cases h
        · cases h
  · rename_i n1 n2 n3 n4 n5 n6 n7 n8 n9 n10 n11 n12 n13
    split at h
    · split at h
      · cases h
      · split at h <;> cases h
    · rename_i hr
      split at h
      · rename_i pc' ls' st' hp
        refine ⟨_, _, _, _, _, h, fun β rt cl k' => ?_⟩
        unfold cstep
        split <;> first | (exfalso; first | exact n1 _ rfl | exact n2 _ rfl | exact n3 rfl | exact n4 rfl | exact n5 rfl | exact n6 rfl | exact n7 rfl | exact n8 rfl | exact n9 _ rfl | exact n10 _ rfl | exact n11 _ rfl | exact n12 _ rfl | exact n13 _ rfl) | skip
        rw [if_neg hr, hp]
      · cases h
def csl (P : Cl) (mi : Nat) (me : Me) : Nat → Nat → Nat → Lv → List Value → St → Option (Nat × Nat × Lv × List Value × St)
  | 0, c, pc, ls, st, s => some (c, pc, ls, st, s)
  | n + 1, c, pc, ls, st, s => match fetch me.cd pc with
    | none => none
    | some (i, _) => cstep P mi me (fun _ _ => none) (fun _ _ _ _ => none) (csl P mi me n) i c pc ls st s
theorem wpc_one {P : Cl} {mi : Nat} {me : Me} {c pc c' pc' : Nat} {ls ls' : Lv} {st st' : List Value} {s s' : St} {Q : Option Value → St → Prop} {i : Instr} {n : Nat} (hf : fetch me.cd pc = some (i, n))
    (h : ∀ (rt : Option Value → St → Rs) cl (k : Nat → Nat → Lv → List Value → St → Rs), cstep P mi me rt cl k i c pc ls st s = k c' pc' ls' st' s') (hq : wpc P mi me c' pc' ls' st' s' Q) : wpc P mi me c pc ls st s Q := by
  obtain ⟨f, v, s2, h1, h2⟩ := hq
  refine ⟨f + 1, v, s2, ?_, h2⟩
  rw [cexec, hf]; dsimp only; rw [h]; exact h1
theorem wpc_sl {P : Cl} {mi : Nat} {me : Me} {Q : Option Value → St → Prop} : ∀ {n c pc c' pc' : Nat} {ls ls' : Lv} {st st' : List Value} {s s' : St}, csl P mi me n c pc ls st s = some (c', pc', ls', st', s') → wpc P mi me c' pc' ls' st' s' Q → wpc P mi me c pc ls st s Q := by
  intro n
  induction n with
  | zero => intro c pc c' pc' ls ls' st st' s s' h hq; cases h; exact hq
  | succ n ih =>
    intro c pc c' pc' ls ls' st st' s s' h hq
    simp only [csl] at h
    split at h
    · cases h
    · rename_i i m hf
      obtain ⟨c1, pc1, ls1, st1, s1, h1, h2⟩ := cstep_nat h
      exact wpc_one hf (fun rt cl k => h2 _ rt cl k) (ih h1 hq)
theorem wpc_ret {P : Cl} {mi : Nat} {me : Me} {c pc : Nat} {ls : Lv} {st : List Value} {s : St} {Q : Option Value → St → Prop} {i : Instr} {n : Nat} {v : Option Value} (hf : fetch me.cd pc = some (i, n)) (hr : isRet i = true) (hc : mi = 0 → c = P.al.length) (h : cret me st i = some v) (hq : Q v s) : wpc P mi me c pc ls st s Q := by
  refine ⟨1, v, s, ?_, hq⟩
  rw [cexec, hf]; dsimp only
  have hc' : ¬ (mi = 0 ∧ c ≠ P.al.length) := fun q => q.2 (hc q.1)
  cases i <;> first | (cases hr; done) | (simp only [cstep]; rw [if_pos hr, if_neg hc', h])
theorem wpc_if {P : Cl} {mi : Nat} {me : Me} {c pc a b : Nat} {ls : Lv} {r : List Value} {s : St} {Q : Option Value → St → Prop} {cd : ClassFile.Cond} {o : Int} {n : Nat} {x : Int32} (hf : fetch me.cd pc = some (.ifCond cd o, n)) (ho : 0 ≤ (pc : Int) + o) (ha : jmp pc o = a) (hb : pc + 3 = b)
    (hq : wpc P mi me c (br cd x 0 a b) ls r s Q) : wpc P mi me c pc ls (.int x :: r) s Q := by
  subst ha hb
  refine wpc_one hf (fun rt cl k => ?_) hq
  show (match pstep (.ifCond cd o) pc ls (.int x :: r) with | some (pc', ls', st') => k c pc' ls' st' s | none => none) = _
  simp only [pstep, qstep]; rw [if_pos ho]
theorem wpc_icmp {P : Cl} {mi : Nat} {me : Me} {c pc a b : Nat} {ls : Lv} {r : List Value} {s : St} {Q : Option Value → St → Prop} {cd : ClassFile.Cond} {o : Int} {n : Nat} {x y : Int32} (hf : fetch me.cd pc = some (.if_icmp cd o, n)) (ho : 0 ≤ (pc : Int) + o) (ha : jmp pc o = a) (hb : pc + 3 = b)
    (hq : wpc P mi me c (br cd x y a b) ls r s Q) : wpc P mi me c pc ls (.int y :: .int x :: r) s Q := by
  subst ha hb
  refine wpc_one hf (fun rt cl k => ?_) hq
  show (match pstep (.if_icmp cd o) pc ls (.int y :: .int x :: r) with | some (pc', ls', st') => k c pc' ls' st' s | none => none) = _
  simp only [pstep, qstep]; rw [if_pos ho]
/-- the two roads of a branch -/
theorem wpc_br {P : Cl} {mi : Nat} {me : Me} {c a b : Nat} {ls : Lv} {st : List Value} {s : St} {Q : Option Value → St → Prop} {p : Prop} [Decidable p] (h : (p → wpc P mi me c a ls st s Q) ∧ (¬ p → wpc P mi me c b ls st s Q)) : wpc P mi me c (if p then a else b) ls st s Q := by
  by_cases hp : p
  · rw [if_pos hp]; exact h.1 hp
  · rw [if_neg hp]; exact h.2 hp
theorem wpc_lda {P : Cl} {mi : Nat} {me : Me} {c pc a tt N : Nat} {ls : Lv} {r : List Value} {s : St} {Q : Option Value → St → Prop} {i : Instr} {n : Nat} {j : Int32} (hf : fetch me.cd pc = some (i, n)) (hi : (tt = 0 ∧ i = .iaload) ∨ (tt = 1 ∧ i = .baload) ∨ (tt = 2 ∧ i = .laload)) (ha : P.al[a]? = some (tt, N)) (hac : a < c)
    (hj : inb N j) (hq : wpc P mi me c (pc + 1) ls (elv tt s (a + 1) (ix j) :: r) s Q) : wpc P mi me c pc ls (.int j :: .ref (a + 1) :: r) s Q := by
  have hl : lda P tt c (.int j :: .ref (a + 1) :: r) s = some (elv tt s (a + 1) (ix j) :: r) := by
    simp only [lda, ha]; rw [if_pos ⟨trivial, hac⟩, if_pos hj]; rfl
  refine wpc_one hf (fun rt cl k => ?_) hq
  rcases hi with ⟨rfl, rfl⟩ | ⟨rfl, rfl⟩ | ⟨rfl, rfl⟩ <;> simp only [cstep, hl]
theorem wpc_sta {P : Cl} {mi : Nat} {me : Me} {c pc a tt N : Nat} {ls : Lv} {r : List Value} {s s' : St} {Q : Option Value → St → Prop} {i : Instr} {n : Nat} {j : Int32} {v : Value} (hf : fetch me.cd pc = some (i, n)) (hi : (tt = 0 ∧ i = .iastore ∧ ∃ z, v = .int z ∧ s' = sI s (a + 1) (ix j) z) ∨ (tt = 1 ∧ i = .bastore ∧ ∃ z, v = .int z ∧ s' = sI s (a + 1) (ix j) (z &&& 1)) ∨ (tt = 2 ∧ i = .lastore ∧ ∃ z, v = .long z ∧ s' = sL s (a + 1) (ix j) z)) (ha : P.al[a]? = some (tt, N)) (hac : a < c)
    (hj : inb N j) (hq : wpc P mi me c (pc + 1) ls r s' Q) : wpc P mi me c pc ls (v :: .int j :: .ref (a + 1) :: r) s Q := by
  have hl : sta P tt c (v :: .int j :: .ref (a + 1) :: r) s = some (r, s') := by
    simp only [sta, ha]; rw [if_pos ⟨trivial, hac⟩, if_pos hj]
    rcases hi with ⟨rfl, -, z, rfl, rfl⟩ | ⟨rfl, -, z, rfl, rfl⟩ | ⟨rfl, -, z, rfl, rfl⟩ <;> rfl
  refine wpc_one hf (fun rt cl k => ?_) hq
  rcases hi with ⟨rfl, rfl, -⟩ | ⟨rfl, rfl, -⟩ | ⟨rfl, rfl, -⟩ <;> simp only [cstep, hl]
theorem wpc_call {P : Cl} {mi : Nat} {me me' : Me} {c pc x m' : Nat} {ls : Lv} {st r as : List Value} {s : St} {Q : Option Value → St → Prop} {n : Nat} (hf : fetch me.cd pc = some (.invokevirtual x, n)) (hm : asc P.mx x = some m') (hme : asc P.ms m' = some me') (hst : st.drop me'.na = .ref 0 :: r) (has : (st.take me'.na).reverse = as)
    (hg : m' ≠ 0 ∧ me'.rf + 1 ≤ me.rf ∧ cats r + (me'.ml + 11) + me'.rl ≤ me.rl ∧ nd (st.take me'.na) = true)
    (hq : cal P m' c (.ref 0 :: as) s fun v s' => wpc P mi me c (pc + 3) ls (v.toList ++ r) s' Q) : wpc P mi me c pc ls st s Q := by
  subst has
  obtain ⟨f1, v, s1, h1, f2, v2, s2, h2, h3⟩ := hq
  refine ⟨max f1 f2 + 1, v2, s2, ?_, h3⟩
  have h1' := ccall_le (Nat.le_max_left f1 f2) h1
  have h2' := cexec_le (Nat.le_max_right f1 f2) h2
  rw [cexec, hf]; dsimp only
  simp only [cstep, hm, hme, hst]
  rw [if_pos hg]
  simp only [ccall, hme] at h1'
  rw [h1']
  cases v <;> exact h2'
theorem cal_of {P : Cl} {m' c : Nat} {as : List Value} {s : St} {Q : Option Value → St → Prop} {me : Me} {ls : Lv} (hme : asc P.ms m' = some me) (hl : (layA as).length ≤ me.ml) (hls : lay as me.ml = ls) (h : wpc P m' me c 0 ls [] s Q) : cal P m' c as s Q := by
  subst hls
  obtain ⟨f, v, s', h1, h2⟩ := h
  refine ⟨f, v, s', ?_, h2⟩
  simp only [ccall, hme]; rw [if_pos hl]; exact h1
theorem cal.mono {P : Cl} {m' c : Nat} {as : List Value} {s : St} {Q Q' : Option Value → St → Prop} (h : cal P m' c as s Q) (hq : ∀ v s', Q v s' → Q' v s') : cal P m' c as s Q' := by
  obtain ⟨f, v, s', h1, h2⟩ := h; exact ⟨f, v, s', h1, hq _ _ h2⟩
theorem calI.mono {P : Cl} {m' c : Nat} {as : List Value} {s : St} {Q Q' : Int32 → St → Prop} (h : calI P m' c as s Q) (hq : ∀ v s', Q v s' → Q' v s') : calI P m' c as s Q' := cal.mono h fun _ _ ⟨v, e, q⟩ => ⟨v, e, hq _ _ q⟩
theorem calL.mono {P : Cl} {m' c : Nat} {as : List Value} {s : St} {Q Q' : Int64 → St → Prop} (h : calL P m' c as s Q) (hq : ∀ v s', Q v s' → Q' v s') : calL P m' c as s Q' := cal.mono h fun _ _ ⟨v, e, q⟩ => ⟨v, e, hq _ _ q⟩
theorem calV.mono {P : Cl} {m' c : Nat} {as : List Value} {s : St} {Q Q' : St → Prop} (h : calV P m' c as s Q) (hq : ∀ s', Q s' → Q' s') : calV P m' c as s Q' := cal.mono h fun _ _ ⟨e, q⟩ => ⟨e, hq _ q⟩
theorem wpc.mono {P : Cl} {mi : Nat} {me : Me} {c pc : Nat} {ls : Lv} {st : List Value} {s : St} {Q Q' : Option Value → St → Prop} (h : wpc P mi me c pc ls st s Q) (hq : ∀ v s', Q v s' → Q' v s') : wpc P mi me c pc ls st s Q' := by
  obtain ⟨f, v, s', h1, h2⟩ := h; exact ⟨f, v, s', h1, hq _ _ h2⟩
theorem wpc_callI {P : Cl} {mi : Nat} {me me' : Me} {c pc x m' : Nat} {ls : Lv} {st r as : List Value} {s : St} {Q : Option Value → St → Prop} {n : Nat} (hf : fetch me.cd pc = some (.invokevirtual x, n)) (hm : asc P.mx x = some m') (hme : asc P.ms m' = some me') (hst : st.drop me'.na = .ref 0 :: r) (has : (st.take me'.na).reverse = as)
    (hg : m' ≠ 0 ∧ me'.rf + 1 ≤ me.rf ∧ cats r + (me'.ml + 11) + me'.rl ≤ me.rl ∧ nd (st.take me'.na) = true)
    (hq : calI P m' c (.ref 0 :: as) s fun v s' => wpc P mi me c (pc + 3) ls (.int v :: r) s' Q) : wpc P mi me c pc ls st s Q :=
  wpc_call hf hm hme hst has hg (cal.mono hq fun _ _ ⟨v, e, q⟩ => by subst e; exact q)
theorem wpc_callL {P : Cl} {mi : Nat} {me me' : Me} {c pc x m' : Nat} {ls : Lv} {st r as : List Value} {s : St} {Q : Option Value → St → Prop} {n : Nat} (hf : fetch me.cd pc = some (.invokevirtual x, n)) (hm : asc P.mx x = some m') (hme : asc P.ms m' = some me') (hst : st.drop me'.na = .ref 0 :: r) (has : (st.take me'.na).reverse = as)
    (hg : m' ≠ 0 ∧ me'.rf + 1 ≤ me.rf ∧ cats r + (me'.ml + 11) + me'.rl ≤ me.rl ∧ nd (st.take me'.na) = true)
    (hq : calL P m' c (.ref 0 :: as) s fun v s' => wpc P mi me c (pc + 3) ls (.long v :: r) s' Q) : wpc P mi me c pc ls st s Q :=
  wpc_call hf hm hme hst has hg (cal.mono hq fun _ _ ⟨v, e, q⟩ => by subst e; exact q)
theorem wpc_callV {P : Cl} {mi : Nat} {me me' : Me} {c pc x m' : Nat} {ls : Lv} {st r as : List Value} {s : St} {Q : Option Value → St → Prop} {n : Nat} (hf : fetch me.cd pc = some (.invokevirtual x, n)) (hm : asc P.mx x = some m') (hme : asc P.ms m' = some me') (hst : st.drop me'.na = .ref 0 :: r) (has : (st.take me'.na).reverse = as)
    (hg : m' ≠ 0 ∧ me'.rf + 1 ≤ me.rf ∧ cats r + (me'.ml + 11) + me'.rl ≤ me.rl ∧ nd (st.take me'.na) = true)
    (hq : calV P m' c (.ref 0 :: as) s fun s' => wpc P mi me c (pc + 3) ls r s' Q) : wpc P mi me c pc ls st s Q :=
  wpc_call hf hm hme hst has hg (cal.mono hq fun _ _ ⟨e, q⟩ => by subst e; exact q)
/-- both roads of a value -/
theorem wp_val {p : Prop} [Decidable p] {α : Sort _} {F : α → Prop} {x y : α} (h : F (if p then x else y)) : (p → F x) ∧ (¬ p → F y) := ⟨fun q => by rw [if_pos q] at h; exact h, fun q => by rw [if_neg q] at h; exact h⟩
end Jvm.LM

namespace Jvm.LM
open Sem ClassFile Op Lib Jvm.Stand Jvm.Free Jvm.LawKit Jvm.RoadKit
/-! variables that are not read any more -/
def lle (a b : Lv) : Prop := a.length = b.length ∧ ∀ (k : Nat) (v : Value), a[k]? = some (some v) → b[k]? = some (some v)
def lle' : Lv → Lv → Prop
  | [], [] => True
  | none :: a, _ :: b => lle' a b
  | some v :: a, w :: b => w = some v ∧ lle' a b
  | _, _ => False
theorem lle_of {a b : Lv} (h : lle' a b) : lle a b := by
  induction a generalizing b with
  | nil => cases b with
    | nil => exact ⟨rfl, fun k v hk => hk⟩
    | cons y b => cases h
  | cons x a ih =>
    cases b with
    | nil => cases x <;> cases h
    | cons y b =>
      cases x with
      | none =>
        obtain ⟨h1, h2⟩ := ih (b := b) h
        refine ⟨by simp [h1], fun k v hk => ?_⟩
        cases k with
        | zero => simp at hk
        | succ k => simp at hk ⊢; exact h2 k v hk
      | some x =>
        obtain ⟨e, h⟩ := h
        obtain ⟨h1, h2⟩ := ih (b := b) h
        subst e
        refine ⟨by simp [h1], fun k v hk => ?_⟩
        cases k with
        | zero => exact hk
        | succ k => simp at hk ⊢; exact h2 k v hk
theorem clr_lle {a b : Lv} (h : lle a b) (i : Nat) : (clr a i).length = (clr b i).length ∧ ∀ k v, k ≠ i → (clr a i)[k]? = some (some v) → (clr b i)[k]? = some (some v) := by
  refine ⟨by rw [clr_len, clr_len]; exact h.1, fun k v hk hv => ?_⟩
  obtain ⟨q1, q2⟩ := clr_get hv
  have q3 := h.2 _ _ q1
  cases i with
  | zero => exact q3
  | succ j =>
    simp only [clr]
    split
    · rename_i x e
      rw [List.getElem?_set]
      split
      · rename_i e2; subst e2
        rw [q3] at e; cases e
        exact absurd rfl (q2 rfl)
      · exact q3
    · rename_i x e
      rw [List.getElem?_set]
      split
      · rename_i e2; subst e2
        rw [q3] at e; cases e
        exact absurd rfl (q2 rfl)
      · exact q3
    · exact q3
theorem stl_lle {a b a' : Lv} (h : lle a b) {i : Nat} {v : Value} (hs : stl a i v = some a') : ∃ b', stl b i v = some b' ∧ lle a' b' := by
  obtain ⟨c1, c2⟩ := clr_lle h i
  have hl := h.1
  have one : ∀ w : Value, ∀ k u, ((clr a i).set i (some w))[k]? = some (some u) → ((clr b i).set i (some w))[k]? = some (some u) := fun w k u hk => by
    rw [List.getElem?_set] at hk ⊢
    split
    · rename_i e; rw [if_pos e] at hk; rw [← c1]; exact hk
    · rename_i e; rw [if_neg e] at hk; exact c2 k u (fun q => e q.symm) hk
  unfold stl at hs ⊢
  split at hs
  · rename_i x
    split at hs
    · rename_i q
      cases hs
      refine ⟨((clr b i).set i (some (.long x))).set (i + 1) none, if_pos (by rw [← hl]; exact q), by simp [c1], fun k u hk => ?_⟩
      rw [List.getElem?_set] at hk ⊢
      split
      · rename_i e; rw [if_pos e] at hk; split at hk <;> simp at hk
      · rename_i e; rw [if_neg e] at hk; exact one _ k u hk
    · cases hs
  · split at hs
    · rename_i q
      cases hs
      exact ⟨(clr b i).set i (some v), if_pos (by rw [← hl]; exact q), by simp [c1], fun k u hk => one _ k u hk⟩
    · cases hs
theorem pstep_lle {i : Instr} {pc pc' : Nat} {ls l1 ls' : Lv} {st st' : List Value} (h : pstep i pc ls st = some (pc', l1, st')) (hl : lle ls ls') : ∃ l1', pstep i pc ls' st = some (pc', l1', st') ∧ lle l1 l1' := by
  unfold pstep at h ⊢
  split at h
  all_goals (try dsimp only)
  iterate 6
    · split at h
      · rename_i e; cases h; rw [hl.2 _ _ e]; exact ⟨_, rfl, hl⟩
      · cases h
  iterate 6
    · split at h
      · split at h
        · rename_i e; cases h
          obtain ⟨b', q1, q2⟩ := stl_lle hl e
          rw [q1]; exact ⟨_, rfl, q2⟩
        · cases h
      · cases h
  · split at h
    · rename_i e0
      split at h
      · rename_i e; cases h
        obtain ⟨b', q1, q2⟩ := stl_lle hl e
        rw [hl.2 _ _ e0]; dsimp only; rw [q1]; exact ⟨_, rfl, q2⟩
      · cases h
    · cases h
  · split at h
    · cases h; exact ⟨_, rfl, hl⟩
    · cases h
theorem cstep_lle {P : Cl} {mi : Nat} {me : Me} {rt : Option Value → St → Rs} {cl : Nat → Nat → List Value → St → Rs} {k : Nat → Nat → Lv → List Value → St → Rs} {i : Instr} {c pc : Nat} {ls ls' : Lv} {st : List Value} {s : St} {r : Option Value × St} (hl : lle ls ls')
    (hk : ∀ c pc ls ls' st s, lle ls ls' → k c pc ls st s = some r → k c pc ls' st s = some r) (h : cstep P mi me rt cl k i c pc ls st s = some r) : cstep P mi me rt cl k i c pc ls' st s = some r := by
  unfold cstep at h ⊢
  split at h
  all_goals (try dsimp only)
  · split at h
    · split at h
      · exact hk _ _ _ _ _ _ hl h
      · cases h
    · cases h
  · split at h
    · split at h
      · exact hk _ _ _ _ _ _ hl h
      · cases h
    · cases h
  iterate 6
    · split at h
      · exact hk _ _ _ _ _ _ hl h
      · cases h
  · split at h
    · rename_i q; rw [if_pos q]; exact hk _ _ _ _ _ _ hl h
    · cases h
  iterate 2
    · split at h
      · exact hk _ _ _ _ _ _ hl h
      · cases h
  · split at h
    · split at h
      · rename_i q; rw [if_pos q]; exact hk _ _ _ _ _ _ hl h
      · cases h
    · cases h
  · split at h
    · cases h
    · split at h
      · cases h
      · split at h
        · split at h
          · rename_i q
            rw [if_pos q]
            split at h
            · exact hk _ _ _ _ _ _ hl h
            · exact hk _ _ _ _ _ _ hl h
            · cases h
          · cases h
        · cases h
  · split at h
    · rename_i q; rw [if_pos q]; exact h
    · rename_i q; rw [if_neg q]
      split at h
      · rename_i e
        obtain ⟨l1', q1, q2⟩ := pstep_lle e hl
        rw [q1]; exact hk _ _ _ _ _ _ q2 h
      · cases h
theorem cexec_lle {P : Cl} : ∀ f mi me c pc ls ls' st s r, lle ls ls' → cexec P f mi me c pc ls st s = some r → cexec P f mi me c pc ls' st s = some r := by
  intro f
  induction f with
  | zero => intro mi me c pc ls ls' st s r _ h; cases h
  | succ f ih =>
    intro mi me c pc ls ls' st s r hl h
    rw [cexec] at h ⊢
    split at h
    · cases h
    · exact cstep_lle hl (fun c pc ls ls' st s hl h => ih _ _ _ _ _ _ _ _ _ hl h) h
theorem wpc_lle {P : Cl} {mi : Nat} {me : Me} {c pc : Nat} {ls ls' : Lv} {st : List Value} {s : St} {Q : Option Value → St → Prop} (hl : lle' ls ls') (h : wpc P mi me c pc ls st s Q) : wpc P mi me c pc ls' st s Q := by
  obtain ⟨f, v, s', h1, h2⟩ := h; exact ⟨f, v, s', cexec_lle _ _ _ _ _ _ _ _ _ _ (lle_of hl) h1, h2⟩
end Jvm.LM

namespace Jvm.LM
open Sem ClassFile Op Lib Jvm.Stand Jvm.Free Jvm.LawKit Jvm.RoadKit
theorem lstep_mono {α : Type} {P : Cl} {Q : Lw} {sc : Sc} {mi : Nat} {me : Me} {rt : Option Value → Wd → Option α} {cc cc' : Nat → Nat → List Value → St → Rs} {cl cl' : Nat → List Value → Wd → Rw} {k k' : Nat → Lv → List Value → Wd → Option α} {i : Instr} {pc : Nat} {ls : Lv} {st : List Value} {w : Wd} {r : α}
    (hcc : ∀ m c as s r, cc m c as s = some r → cc' m c as s = some r) (hcl : ∀ m as s r, cl m as s = some r → cl' m as s = some r) (hk : ∀ pc ls st s r, k pc ls st s = some r → k' pc ls st s = some r) (h : lstep P Q sc mi me rt cc cl k i pc ls st w = some r) : lstep P Q sc mi me rt cc' cl' k' i pc ls st w = some r := by
  unfold lstep at h ⊢
  split at h
  all_goals (try dsimp only)
  · split at h
    · split at h
      · rename_i q; rw [if_pos q]; exact hk _ _ _ _ _ h
      · cases h
    · cases h
  · split at h
    · exact hk _ _ _ _ _ h
    · cases h
  · split at h
    · exact hk _ _ _ _ _ h
    · cases h
  · split at h
    · exact hk _ _ _ _ _ h
    · cases h
  · split at h
    · rename_i q; rw [if_pos q]; exact hk _ _ _ _ _ h
    · cases h
  · split at h
    · cases h
    · split at h
      · split at h
        · rename_i q
          rw [if_pos q]
          split at h
          · rename_i s1 hc; rw [hcc _ _ _ _ _ hc]; exact hk _ _ _ _ _ h
          · cases h
        · cases h
      · cases h
  · split at h
    · cases h
    · split at h
      · cases h
      · split at h
        · split at h
          · rename_i q
            rw [if_pos q]
            split at h
            · rename_i s1 hc; rw [hcc _ _ _ _ _ hc]; exact hk _ _ _ _ _ h
            · rename_i v1 s1 hc; rw [hcc _ _ _ _ _ hc]; exact hk _ _ _ _ _ h
            · cases h
          · cases h
        · cases h
  · split at h
    · cases h
    · split at h
      · cases h
      · split at h
        · rename_i q
          rw [if_pos q]
          split at h
          · rename_i s1 hc; rw [hcl _ _ _ _ hc]; exact hk _ _ _ _ _ h
          · rename_i v1 s1 hc; rw [hcl _ _ _ _ hc]; exact hk _ _ _ _ _ h
          · cases h
        · cases h
  · split at h
    · rename_i q; rw [if_pos q]; exact h
    · rename_i q; rw [if_neg q]
      split at h
      · exact hk _ _ _ _ _ h
      · cases h
theorem lexec_succ {P : Cl} {Q : Lw} {sc : Sc} : ∀ f mi me pc ls st w r, lexec P Q sc f mi me pc ls st w = some r → lexec P Q sc (f + 1) mi me pc ls st w = some r := by
  intro f
  induction f with
  | zero => intro mi me pc ls st s r h; cases h
  | succ f ih =>
    intro mi me pc ls st s r h
    rw [lexec] at h ⊢
    split at h
    · cases h
    · refine lstep_mono (fun m c as s r h => ccall_le (Nat.le_succ _) h) (fun m as s r h => ?_) (fun pc ls st s r h => ih _ _ _ _ _ _ _ h) h
      split at h
      · split at h
        · rename_i q; rw [if_pos q]; exact ih _ _ _ _ _ _ _ h
        · cases h
      · cases h
theorem lexec_le {P : Cl} {Q : Lw} {sc : Sc} {f g mi : Nat} {me : Me} {pc : Nat} {ls : Lv} {st : List Value} {w : Wd} {r : Option Value × Wd} (hfg : f ≤ g) (h : lexec P Q sc f mi me pc ls st w = some r) : lexec P Q sc g mi me pc ls st w = some r := by
  obtain ⟨d, rfl⟩ := Nat.le.dest hfg
  induction d with
  | zero => exact h
  | succ d ih => exact lexec_succ _ _ _ _ _ _ _ _ (ih (Nat.le_add_right _ _))
theorem lcall_le {P : Cl} {Q : Lw} {sc : Sc} {f g m' : Nat} {as : List Value} {w : Wd} {r : Option Value × Wd} (hfg : f ≤ g) (h : lcall P Q sc f m' as w = some r) : lcall P Q sc g m' as w = some r := by
  unfold lcall at h ⊢
  split at h
  · split at h
    · rename_i q; rw [if_pos q]; exact lexec_le hfg h
    · cases h
  · cases h
def wpl (P : Cl) (Q : Lw) (sc : Sc) (mi : Nat) (me : Me) (pc : Nat) (ls : Lv) (st : List Value) (w : Wd) (R : Option Value → Wd → Prop) : Prop := ∃ f v w', lexec P Q sc f mi me pc ls st w = some (v, w') ∧ R v w'
def lal (P : Cl) (Q : Lw) (sc : Sc) (m' : Nat) (as : List Value) (w : Wd) (R : Option Value → Wd → Prop) : Prop := ∃ f v w', lcall P Q sc f m' as w = some (v, w') ∧ R v w'
def lalI (P : Cl) (Q : Lw) (sc : Sc) (m' : Nat) (as : List Value) (w : Wd) (R : Int32 → Wd → Prop) : Prop := lal P Q sc m' as w fun r w' => ∃ v, r = some (.int v) ∧ R v w'
def lalL (P : Cl) (Q : Lw) (sc : Sc) (m' : Nat) (as : List Value) (w : Wd) (R : Int64 → Wd → Prop) : Prop := lal P Q sc m' as w fun r w' => ∃ v, r = some (.long v) ∧ R v w'
def lalV (P : Cl) (Q : Lw) (sc : Sc) (m' : Nat) (as : List Value) (w : Wd) (R : Wd → Prop) : Prop := lal P Q sc m' as w fun r w' => r = none ∧ R w'
theorem lal.mono {P : Cl} {Q : Lw} {sc : Sc} {m' : Nat} {as : List Value} {w : Wd} {R R' : Option Value → Wd → Prop} (h : lal P Q sc m' as w R) (hq : ∀ v s', R v s' → R' v s') : lal P Q sc m' as w R' := by
  obtain ⟨f, v, s', h1, h2⟩ := h; exact ⟨f, v, s', h1, hq _ _ h2⟩
theorem lalI.mono {P : Cl} {Q : Lw} {sc : Sc} {m' : Nat} {as : List Value} {w : Wd} {R R' : Int32 → Wd → Prop} (h : lalI P Q sc m' as w R) (hq : ∀ v s', R v s' → R' v s') : lalI P Q sc m' as w R' := lal.mono h fun _ _ ⟨v, e, q⟩ => ⟨v, e, hq _ _ q⟩
theorem lalL.mono {P : Cl} {Q : Lw} {sc : Sc} {m' : Nat} {as : List Value} {w : Wd} {R R' : Int64 → Wd → Prop} (h : lalL P Q sc m' as w R) (hq : ∀ v s', R v s' → R' v s') : lalL P Q sc m' as w R' := lal.mono h fun _ _ ⟨v, e, q⟩ => ⟨v, e, hq _ _ q⟩
theorem lalV.mono {P : Cl} {Q : Lw} {sc : Sc} {m' : Nat} {as : List Value} {w : Wd} {R R' : Wd → Prop} (h : lalV P Q sc m' as w R) (hq : ∀ s', R s' → R' s') : lalV P Q sc m' as w R' := lal.mono h fun _ _ ⟨e, q⟩ => ⟨e, hq _ q⟩
theorem wpl.mono {P : Cl} {Q : Lw} {sc : Sc} {mi : Nat} {me : Me} {pc : Nat} {ls : Lv} {st : List Value} {w : Wd} {R R' : Option Value → Wd → Prop} (h : wpl P Q sc mi me pc ls st w R) (hq : ∀ v s', R v s' → R' v s') : wpl P Q sc mi me pc ls st w R' := by
  obtain ⟨f, v, s', h1, h2⟩ := h; exact ⟨f, v, s', h1, hq _ _ h2⟩
theorem wpl_one {P : Cl} {Q : Lw} {sc : Sc} {mi : Nat} {me : Me} {pc pc' : Nat} {ls ls' : Lv} {st st' : List Value} {w w' : Wd} {R : Option Value → Wd → Prop} {i : Instr} {n : Nat} (hf : fetch me.cd pc = some (i, n))
    (h : ∀ (rt : Option Value → Wd → Rw) cc cl (k : Nat → Lv → List Value → Wd → Rw), lstep P Q sc mi me rt cc cl k i pc ls st w = k pc' ls' st' w') (hq : wpl P Q sc mi me pc' ls' st' w' R) : wpl P Q sc mi me pc ls st w R := by
  obtain ⟨f, v, s2, h1, h2⟩ := hq
  refine ⟨f + 1, v, s2, ?_, h2⟩
  rw [lexec, hf]; dsimp only; rw [h]; exact h1
/-- plain steps: nothing of the heap, no call -/
def isPl : Instr → Bool
  | .iaload => false | .arraylength => false | .ldc _ => false | .ldc2_w _ => false | .new _ => false | .invokespecial _ => false | .invokevirtual _ => false | .invokestatic _ => false
  | .ireturn => false | .lreturn => false | .return_ => false
  | _ => true
theorem lstep_pl {α : Type} {P : Cl} {Q : Lw} {sc : Sc} {mi : Nat} {me : Me} {rt : Option Value → Wd → Option α} {cc : Nat → Nat → List Value → St → Rs} {cl : Nat → List Value → Wd → Rw} {k : Nat → Lv → List Value → Wd → Option α} {i : Instr} {pc : Nat} {ls : Lv} {st : List Value} {w : Wd} (hi : isPl i = true) :
    lstep P Q sc mi me rt cc cl k i pc ls st w = match pstep i pc ls st with | some (pc', ls', st') => k pc' ls' st' w | none => none := by
  cases i <;> first | (cases hi; done) | rfl
def psl (kx : List (Nat × Value)) (cd : Cd) : Nat → Nat → Lv → List Value → Option (Nat × Lv × List Value)
  | 0, pc, ls, st => some (pc, ls, st)
  | n + 1, pc, ls, st => match fetch cd pc with
    | none => none
    | some (i, _) => match i with
      | .ldc x => (match asc kx x with | some (.int z) => psl kx cd n (pc + 2) ls (.int z :: st) | _ => none)
      | .ldc2_w x => (match asc kx x with | some (.long z) => psl kx cd n (pc + 3) ls (.long z :: st) | _ => none)
      | i => if isPl i = true then (match pstep i pc ls st with | some (pc', ls', st') => psl kx cd n pc' ls' st' | none => none) else none
theorem wpl_sl {P : Cl} {Q : Lw} {sc : Sc} {mi : Nat} {me : Me} {w : Wd} {R : Option Value → Wd → Prop} : ∀ {n pc pc' : Nat} {ls ls' : Lv} {st st' : List Value}, psl Q.kx me.cd n pc ls st = some (pc', ls', st') → wpl P Q sc mi me pc' ls' st' w R → wpl P Q sc mi me pc ls st w R := by
  intro n
  induction n with
  | zero => intro pc pc' ls ls' st st' h hq; cases h; exact hq
  | succ n ih =>
    intro pc pc' ls ls' st st' h hq
    simp only [psl] at h
    split at h
    · cases h
    · rename_i i m hf
      split at h
      · split at h
        · rename_i z e
          exact wpl_one hf (fun rt cc cl k => by simp only [lstep, e]) (ih h hq)
        · cases h
      · split at h
        · rename_i z e
          exact wpl_one hf (fun rt cc cl k => by simp only [lstep, e]) (ih h hq)
        · cases h
      · split at h
        · rename_i hi
          split at h
          · rename_i pc1 ls1 st1 e
            exact wpl_one hf (fun rt cc cl k => by rw [lstep_pl hi, e]) (ih h hq)
          · cases h
        · cases h
theorem wpl_ret {P : Cl} {Q : Lw} {sc : Sc} {mi : Nat} {me : Me} {pc : Nat} {ls : Lv} {st : List Value} {w : Wd} {R : Option Value → Wd → Prop} {i : Instr} {n : Nat} {v : Option Value} (hf : fetch me.cd pc = some (i, n)) (hr : isRet i = true) (h : cret me st i = some v) (hq : R v w) : wpl P Q sc mi me pc ls st w R := by
  refine ⟨1, v, w, ?_, hq⟩
  rw [lexec, hf]; dsimp only
  cases i <;> first | (cases hr; done) | (simp only [lstep]; rw [if_pos hr, h])
theorem wpl_if {P : Cl} {Q : Lw} {sc : Sc} {mi : Nat} {me : Me} {pc a b : Nat} {ls : Lv} {r : List Value} {w : Wd} {R : Option Value → Wd → Prop} {cd : ClassFile.Cond} {o : Int} {n : Nat} {x : Int32} (hf : fetch me.cd pc = some (.ifCond cd o, n)) (ho : 0 ≤ (pc : Int) + o) (ha : jmp pc o = a) (hb : pc + 3 = b)
    (hq : wpl P Q sc mi me (br cd x 0 a b) ls r w R) : wpl P Q sc mi me pc ls (.int x :: r) w R := by
  subst ha hb
  refine wpl_one hf (fun rt cc cl k => ?_) hq
  rw [lstep_pl rfl]
  simp only [pstep, qstep]; rw [if_pos ho]
theorem wpl_icmp {P : Cl} {Q : Lw} {sc : Sc} {mi : Nat} {me : Me} {pc a b : Nat} {ls : Lv} {r : List Value} {w : Wd} {R : Option Value → Wd → Prop} {cd : ClassFile.Cond} {o : Int} {n : Nat} {x y : Int32} (hf : fetch me.cd pc = some (.if_icmp cd o, n)) (ho : 0 ≤ (pc : Int) + o) (ha : jmp pc o = a) (hb : pc + 3 = b)
    (hq : wpl P Q sc mi me (br cd x y a b) ls r w R) : wpl P Q sc mi me pc ls (.int y :: .int x :: r) w R := by
  subst ha hb
  refine wpl_one hf (fun rt cc cl k => ?_) hq
  rw [lstep_pl rfl]
  simp only [pstep, qstep]; rw [if_pos ho]
theorem wpl_br {P : Cl} {Q : Lw} {sc : Sc} {mi : Nat} {me : Me} {a b : Nat} {ls : Lv} {st : List Value} {w : Wd} {R : Option Value → Wd → Prop} {p : Prop} [Decidable p] (h : (p → wpl P Q sc mi me a ls st w R) ∧ (¬ p → wpl P Q sc mi me b ls st w R)) : wpl P Q sc mi me (if p then a else b) ls st w R := by
  by_cases hp : p
  · rw [if_pos hp]; exact h.1 hp
  · rw [if_neg hp]; exact h.2 hp
theorem wpl_lda {P : Cl} {Q : Lw} {N : Nat} {g : Nat → Int32} {mi : Nat} {me : Me} {pc : Nat} {ls : Lv} {r : List Value} {w : Wd} {R : Option Value → Wd → Prop} {n : Nat} {j : Int32} (hf : fetch me.cd pc = some (.iaload, n)) (hj : inb N j) (hq : wpl P Q (some (N, g)) mi me (pc + 1) ls (.int (g (ix j)) :: r) w R) : wpl P Q (some (N, g)) mi me pc ls (.int j :: .ref 0 :: r) w R := by
  refine wpl_one hf (fun rt cc cl k => ?_) hq
  simp only [lstep]; rw [if_pos hj]
theorem wpl_len {P : Cl} {Q : Lw} {N : Nat} {g : Nat → Int32} {mi : Nat} {me : Me} {pc : Nat} {ls : Lv} {r : List Value} {w : Wd} {R : Option Value → Wd → Prop} {n : Nat} (hf : fetch me.cd pc = some (.arraylength, n)) (hq : wpl P Q (some (N, g)) mi me (pc + 1) ls (.int (Int32.ofNat N) :: r) w R) : wpl P Q (some (N, g)) mi me pc ls (.ref 0 :: r) w R := by
  refine wpl_one hf (fun rt cc cl k => ?_) hq
  simp only [lstep]
theorem wpl_new {P : Cl} {Q : Lw} {sc : Sc} {me : Me} {pc cnt : Nat} {ls : Lv} {st : List Value} {os : Nat → St} {R : Option Value → Wd → Prop} {n x : Nat} (hf : fetch me.cd pc = some (.new x, n)) (hx : x = Q.cx) (h1 : (cnt + 1) * (P.al.length + 1) ≤ Q.rc) (h2 : (cnt + 1) * (Q.nf + zs P.al P.al.length) ≤ Q.rs)
    (hq : wpl P Q sc 0 me (pc + 3) ls (.ref (cnt + 1) :: st) (uo os cnt s0, cnt, true) R) : wpl P Q sc 0 me pc ls st (os, cnt, false) R := by
  refine wpl_one hf (fun rt cc cl k => ?_) hq
  simp only [lstep]; rw [if_pos ⟨trivial, hx, trivial, h1, h2⟩]
theorem wpl_ctor {P : Cl} {Q : Lw} {sc : Sc} {me me' : Me} {pc cnt : Nat} {ls : Lv} {st r as : List Value} {os : Nat → St} {R : Option Value → Wd → Prop} {n x : Nat} (hf : fetch me.cd pc = some (.invokespecial x, n)) (hx : x = Q.ci) (hme : asc P.ms 0 = some me') (hst : st.drop me'.na = .ref (cnt + 1) :: r) (has : (st.take me'.na).reverse = as)
    (hg : me'.rf + 1 ≤ me.rf ∧ cats r + (me'.ml + 11) + me'.rl ≤ me.rl ∧ nr (st.take me'.na) = true ∧ (cnt + 1) * (P.al.length + 1) ≤ Q.rc ∧ (cnt + 1) * (Q.nf + zs P.al P.al.length) ≤ Q.rs)
    (hq : calV P 0 0 (.ref 0 :: as) (os cnt) fun s' => wpl P Q sc 0 me (pc + 3) ls r (uo os cnt s', cnt + 1, false) R) : wpl P Q sc 0 me pc ls st (os, cnt, true) R := by
  subst has
  obtain ⟨f1, v, s1, h1, rfl, f2, v2, s2, h2, h3⟩ := hq
  refine ⟨max f1 f2 + 1, v2, s2, ?_, h3⟩
  have h1' := ccall_le (Nat.le_max_left f1 f2) h1
  have h2' := lexec_le (Nat.le_max_right f1 f2) h2
  rw [lexec, hf]; dsimp only
  simp only [lstep, hme, hst]
  rw [if_pos ⟨hx, trivial, trivial, trivial, hg⟩, h1']
  exact h2'
theorem wpl_call {P : Cl} {Q : Lw} {sc : Sc} {mi : Nat} {me me' : Me} {pc x m' o : Nat} {ls : Lv} {st r as : List Value} {w : Wd} {R : Option Value → Wd → Prop} {n : Nat} (hf : fetch me.cd pc = some (.invokevirtual x, n)) (hm : asc Q.vx x = some m') (hme : asc P.ms m' = some me') (hst : st.drop me'.na = .ref (o + 1) :: r) (has : (st.take me'.na).reverse = as)
    (hg : m' ≠ 0 ∧ o < w.2.1 ∧ me'.rf + 1 ≤ me.rf ∧ cats r + (me'.ml + 11) + me'.rl ≤ me.rl ∧ nr (st.take me'.na) = true)
    (hq : cal P m' P.al.length (.ref 0 :: as) (w.1 o) fun v s' => wpl P Q sc mi me (pc + 3) ls (v.toList ++ r) (uo w.1 o s', w.2.1, w.2.2) R) : wpl P Q sc mi me pc ls st w R := by
  subst has
  obtain ⟨f1, v, s1, h1, f2, v2, s2, h2, h3⟩ := hq
  refine ⟨max f1 f2 + 1, v2, s2, ?_, h3⟩
  have h1' := ccall_le (Nat.le_max_left f1 f2) h1
  have h2' := lexec_le (Nat.le_max_right f1 f2) h2
  rw [lexec, hf]; dsimp only
  simp only [lstep, hm, hme, hst]
  rw [if_pos hg, h1']
  cases v <;> exact h2'
theorem wpl_stat {P : Cl} {Q : Lw} {sc : Sc} {mi : Nat} {me me' : Me} {pc x m' : Nat} {ls : Lv} {st r as : List Value} {w : Wd} {R : Option Value → Wd → Prop} {n : Nat} (hf : fetch me.cd pc = some (.invokestatic x, n)) (hm : asc Q.sx x = some m') (hme : asc Q.ms m' = some me') (hst : st.drop me'.na = r) (has : (st.take me'.na).reverse = as)
    (hg : m' ≠ 0 ∧ me'.na ≤ st.length ∧ me'.rf + 1 ≤ me.rf ∧ cats r + (me'.ml + 11) + me'.rl ≤ me.rl ∧ nd (st.take me'.na) = true)
    (hq : lal P Q sc m' as w fun v w' => wpl P Q sc mi me (pc + 3) ls (v.toList ++ r) w' R) : wpl P Q sc mi me pc ls st w R := by
  subst has hst
  obtain ⟨f1, v, s1, h1, f2, v2, s2, h2, h3⟩ := hq
  refine ⟨max f1 f2 + 1, v2, s2, ?_, h3⟩
  have h1' := lcall_le (Nat.le_max_left f1 f2) h1
  have h2' := lexec_le (Nat.le_max_right f1 f2) h2
  rw [lexec, hf]; dsimp only
  simp only [lstep, hm, hme]
  rw [if_pos hg]
  simp only [lcall, hme] at h1'
  rw [h1']
  cases v <;> exact h2'
theorem lal_of {P : Cl} {Q : Lw} {sc : Sc} {m' : Nat} {as : List Value} {w : Wd} {R : Option Value → Wd → Prop} {me : Me} {ls : Lv} (hme : asc Q.ms m' = some me) (hl : (layA as).length ≤ me.ml) (hls : lay as me.ml = ls) (h : wpl P Q sc m' me 0 ls [] w R) : lal P Q sc m' as w R := by
  subst hls
  obtain ⟨f, v, s', h1, h2⟩ := h
  refine ⟨f, v, s', ?_, h2⟩
  simp only [lcall, hme]; rw [if_pos hl]; exact h1
theorem lstep_lle {P : Cl} {Q : Lw} {sc : Sc} {mi : Nat} {me : Me} {rt : Option Value → Wd → Rw} {cc : Nat → Nat → List Value → St → Rs} {cl : Nat → List Value → Wd → Rw} {k : Nat → Lv → List Value → Wd → Rw} {i : Instr} {pc : Nat} {ls ls' : Lv} {st : List Value} {w : Wd} {r : Option Value × Wd} (hl : lle ls ls')
    (hk : ∀ pc ls ls' st s, lle ls ls' → k pc ls st s = some r → k pc ls' st s = some r) (h : lstep P Q sc mi me rt cc cl k i pc ls st w = some r) : lstep P Q sc mi me rt cc cl k i pc ls' st w = some r := by
  unfold lstep at h ⊢
  split at h
  all_goals (try dsimp only)
  · split at h
    · split at h
      · rename_i q; rw [if_pos q]; exact hk _ _ _ _ _ hl h
      · cases h
    · cases h
  iterate 3
    · split at h
      · exact hk _ _ _ _ _ hl h
      · cases h
  · split at h
    · rename_i q; rw [if_pos q]; exact hk _ _ _ _ _ hl h
    · cases h
  · split at h
    · cases h
    · split at h
      · split at h
        · rename_i q
          rw [if_pos q]
          split at h
          · exact hk _ _ _ _ _ hl h
          · cases h
        · cases h
      · cases h
  · split at h
    · cases h
    · split at h
      · cases h
      · split at h
        · split at h
          · rename_i q
            rw [if_pos q]
            split at h
            · exact hk _ _ _ _ _ hl h
            · exact hk _ _ _ _ _ hl h
            · cases h
          · cases h
        · cases h
  · split at h
    · cases h
    · split at h
      · cases h
      · split at h
        · rename_i q
          rw [if_pos q]
          split at h
          · exact hk _ _ _ _ _ hl h
          · exact hk _ _ _ _ _ hl h
          · cases h
        · cases h
  · split at h
    · rename_i q; rw [if_pos q]; exact h
    · rename_i q; rw [if_neg q]
      split at h
      · rename_i e
        obtain ⟨l1', q1, q2⟩ := pstep_lle e hl
        rw [q1]; exact hk _ _ _ _ _ q2 h
      · cases h
theorem lexec_lle {P : Cl} {Q : Lw} {sc : Sc} : ∀ f mi me pc ls ls' st w r, lle ls ls' → lexec P Q sc f mi me pc ls st w = some r → lexec P Q sc f mi me pc ls' st w = some r := by
  intro f
  induction f with
  | zero => intro mi me pc ls ls' st w r _ h; cases h
  | succ f ih =>
    intro mi me pc ls ls' st w r hl h
    rw [lexec] at h ⊢
    split at h
    · cases h
    · exact lstep_lle hl (fun pc ls ls' st s hl h => ih _ _ _ _ _ _ _ _ hl h) h
theorem wpl_lle {P : Cl} {Q : Lw} {sc : Sc} {mi : Nat} {me : Me} {pc : Nat} {ls ls' : Lv} {st : List Value} {w : Wd} {R : Option Value → Wd → Prop} (hl : lle' ls ls') (h : wpl P Q sc mi me pc ls st w R) : wpl P Q sc mi me pc ls' st w R := by
  obtain ⟨f, v, s', h1, h2⟩ := h; exact ⟨f, v, s', lexec_lle _ _ _ _ _ _ _ _ _ (lle_of hl) h1, h2⟩
/-! worlds of no, one and two objects -/
def W0 : Wd := (fun _ => s0, 0, false)
def W0p : Wd := (uo (fun _ => s0) 0 s0, 0, true)
def W1 (s : St) : Wd := (uo (fun _ => s0) 0 s, 1, false)
def W1p (s : St) : Wd := (uo (uo (fun _ => s0) 0 s) 1 s0, 1, true)
def W2 (s t : St) : Wd := (uo (uo (fun _ => s0) 0 s) 1 t, 2, false)
theorem uo_uo (f : Nat → St) (o : Nat) (s t : St) : uo (uo f o s) o t = uo f o t := by
  funext i; simp only [uo]; split <;> rfl
theorem uo_swap (f : Nat → St) {o o' : Nat} (h : o ≠ o') (s t : St) : uo (uo f o s) o' t = uo (uo f o' t) o s := by
  funext i; simp only [uo]
  by_cases a : i = o
  · subst a; simp [h]
  · by_cases b : i = o'
    · subst b; simp [Ne.symm h]
    · simp [a, b]
section Worlds
variable {P : Cl} {Q : Lw} {sc : Sc} {mi : Nat} {me me' : Me} {pc x m' : Nat} {ls : Lv} {st r as : List Value} {R : Option Value → Wd → Prop} {n : Nat} {s t : St}
theorem wpl_new0 (hf : fetch me.cd pc = some (.new x, n)) (hx : x = Q.cx) (h1 : 1 * (P.al.length + 1) ≤ Q.rc) (h2 : 1 * (Q.nf + zs P.al P.al.length) ≤ Q.rs) (hq : wpl P Q sc 0 me (pc + 3) ls (.ref 1 :: st) W0p R) : wpl P Q sc 0 me pc ls st W0 R := wpl_new (cnt := 0) hf hx h1 h2 hq
theorem wpl_new1 (hf : fetch me.cd pc = some (.new x, n)) (hx : x = Q.cx) (h1 : 2 * (P.al.length + 1) ≤ Q.rc) (h2 : 2 * (Q.nf + zs P.al P.al.length) ≤ Q.rs) (hq : wpl P Q sc 0 me (pc + 3) ls (.ref 2 :: st) (W1p s) R) : wpl P Q sc 0 me pc ls st (W1 s) R := wpl_new (cnt := 1) hf hx h1 h2 hq
theorem wpl_ctor0 (hf : fetch me.cd pc = some (.invokespecial x, n)) (hx : x = Q.ci) (hme : asc P.ms 0 = some me') (hst : st.drop me'.na = .ref 1 :: r) (has : (st.take me'.na).reverse = as)
    (hg : me'.rf + 1 ≤ me.rf ∧ cats r + (me'.ml + 11) + me'.rl ≤ me.rl ∧ nr (st.take me'.na) = true ∧ 1 * (P.al.length + 1) ≤ Q.rc ∧ 1 * (Q.nf + zs P.al P.al.length) ≤ Q.rs)
    (hq : calV P 0 0 (.ref 0 :: as) s0 fun s' => wpl P Q sc 0 me (pc + 3) ls r (W1 s') R) : wpl P Q sc 0 me pc ls st W0p R := by
  refine wpl_ctor (cnt := 0) hf hx hme hst has hg ?_
  refine calV.mono (show calV P 0 0 (.ref 0 :: as) (uo (fun _ => s0) 0 s0 0) _ from hq) fun s' h => ?_
  rw [uo_uo]; exact h
theorem wpl_ctor1 (hf : fetch me.cd pc = some (.invokespecial x, n)) (hx : x = Q.ci) (hme : asc P.ms 0 = some me') (hst : st.drop me'.na = .ref 2 :: r) (has : (st.take me'.na).reverse = as)
    (hg : me'.rf + 1 ≤ me.rf ∧ cats r + (me'.ml + 11) + me'.rl ≤ me.rl ∧ nr (st.take me'.na) = true ∧ 2 * (P.al.length + 1) ≤ Q.rc ∧ 2 * (Q.nf + zs P.al P.al.length) ≤ Q.rs)
    (hq : calV P 0 0 (.ref 0 :: as) s0 fun s' => wpl P Q sc 0 me (pc + 3) ls r (W2 s s') R) : wpl P Q sc 0 me pc ls st (W1p s) R := by
  refine wpl_ctor (cnt := 1) hf hx hme hst has hg ?_
  refine calV.mono (show calV P 0 0 (.ref 0 :: as) (uo (uo (fun _ => s0) 0 s) 1 s0 1) _ from hq) fun s' h => ?_
  rw [uo_uo]; exact h
theorem wpl_v1 (hf : fetch me.cd pc = some (.invokevirtual x, n)) (hm : asc Q.vx x = some m') (hme : asc P.ms m' = some me') (hst : st.drop me'.na = .ref 1 :: r) (has : (st.take me'.na).reverse = as)
    (hg : m' ≠ 0 ∧ me'.rf + 1 ≤ me.rf ∧ cats r + (me'.ml + 11) + me'.rl ≤ me.rl ∧ nr (st.take me'.na) = true)
    (hq : cal P m' P.al.length (.ref 0 :: as) s fun v s' => wpl P Q sc mi me (pc + 3) ls (v.toList ++ r) (W1 s') R) : wpl P Q sc mi me pc ls st (W1 s) R := by
  refine wpl_call (o := 0) hf hm hme hst has ⟨hg.1, by show 0 < 1; decide, hg.2⟩ ?_
  refine cal.mono (show cal P m' P.al.length (.ref 0 :: as) ((W1 s).1 0) _ from hq) fun v s' h => ?_
  show wpl P Q sc mi me (pc + 3) ls (v.toList ++ r) (uo (uo (fun _ => s0) 0 s) 0 s', 1, false) R
  rw [uo_uo]; exact h
theorem wpl_v2a (hf : fetch me.cd pc = some (.invokevirtual x, n)) (hm : asc Q.vx x = some m') (hme : asc P.ms m' = some me') (hst : st.drop me'.na = .ref 1 :: r) (has : (st.take me'.na).reverse = as)
    (hg : m' ≠ 0 ∧ me'.rf + 1 ≤ me.rf ∧ cats r + (me'.ml + 11) + me'.rl ≤ me.rl ∧ nr (st.take me'.na) = true)
    (hq : cal P m' P.al.length (.ref 0 :: as) s fun v s' => wpl P Q sc mi me (pc + 3) ls (v.toList ++ r) (W2 s' t) R) : wpl P Q sc mi me pc ls st (W2 s t) R := by
  refine wpl_call (o := 0) hf hm hme hst has ⟨hg.1, by show 0 < 2; decide, hg.2⟩ ?_
  refine cal.mono (show cal P m' P.al.length (.ref 0 :: as) ((W2 s t).1 0) _ from hq) fun v s' h => ?_
  show wpl P Q sc mi me (pc + 3) ls (v.toList ++ r) (uo (uo (uo (fun _ => s0) 0 s) 1 t) 0 s', 2, false) R
  rw [uo_swap _ (by decide), uo_uo]; exact h
theorem wpl_v2b (hf : fetch me.cd pc = some (.invokevirtual x, n)) (hm : asc Q.vx x = some m') (hme : asc P.ms m' = some me') (hst : st.drop me'.na = .ref 2 :: r) (has : (st.take me'.na).reverse = as)
    (hg : m' ≠ 0 ∧ me'.rf + 1 ≤ me.rf ∧ cats r + (me'.ml + 11) + me'.rl ≤ me.rl ∧ nr (st.take me'.na) = true)
    (hq : cal P m' P.al.length (.ref 0 :: as) t fun v s' => wpl P Q sc mi me (pc + 3) ls (v.toList ++ r) (W2 s s') R) : wpl P Q sc mi me pc ls st (W2 s t) R := by
  refine wpl_call (o := 1) hf hm hme hst has ⟨hg.1, by show 1 < 2; decide, hg.2⟩ ?_
  refine cal.mono (show cal P m' P.al.length (.ref 0 :: as) ((W2 s t).1 1) _ from hq) fun v s' h => ?_
  show wpl P Q sc mi me (pc + 3) ls (v.toList ++ r) (uo (uo (uo (fun _ => s0) 0 s) 1 t) 1 s', 2, false) R
  rw [uo_uo]; exact h
end Worlds
theorem cal_I {P : Cl} {m' c : Nat} {as : List Value} {s : St} {F : Option Value → St → Prop} (h : calI P m' c as s fun v s' => F (some (.int v)) s') : cal P m' c as s F := cal.mono h fun _ _ ⟨v, e, q⟩ => by subst e; exact q
theorem cal_L {P : Cl} {m' c : Nat} {as : List Value} {s : St} {F : Option Value → St → Prop} (h : calL P m' c as s fun v s' => F (some (.long v)) s') : cal P m' c as s F := cal.mono h fun _ _ ⟨v, e, q⟩ => by subst e; exact q
theorem cal_V {P : Cl} {m' c : Nat} {as : List Value} {s : St} {F : Option Value → St → Prop} (h : calV P m' c as s fun s' => F none s') : cal P m' c as s F := cal.mono h fun _ _ ⟨e, q⟩ => by subst e; exact q
theorem lal_I {P : Cl} {Q : Lw} {sc : Sc} {m' : Nat} {as : List Value} {w : Wd} {F : Option Value → Wd → Prop} (h : lalI P Q sc m' as w fun v w' => F (some (.int v)) w') : lal P Q sc m' as w F := lal.mono h fun _ _ ⟨v, e, q⟩ => by subst e; exact q
theorem lal_L {P : Cl} {Q : Lw} {sc : Sc} {m' : Nat} {as : List Value} {w : Wd} {F : Option Value → Wd → Prop} (h : lalL P Q sc m' as w fun v w' => F (some (.long v)) w') : lal P Q sc m' as w F := lal.mono h fun _ _ ⟨v, e, q⟩ => by subst e; exact q
theorem lal_V {P : Cl} {Q : Lw} {sc : Sc} {m' : Nat} {as : List Value} {w : Wd} {F : Option Value → Wd → Prop} (h : lalV P Q sc m' as w fun w' => F none w') : lal P Q sc m' as w F := lal.mono h fun _ _ ⟨e, q⟩ => by subst e; exact q
end Jvm.LM

namespace Jvm.LM
open Sem ClassFile Op Lib Jvm.Stand Jvm.Free Jvm.LawKit Jvm.RoadKit
/-! rules for the steps that ask something -/
abbrev wpcI (P : Cl) (mi : Nat) (me : Me) (c pc : Nat) (ls : Lv) (st : List Value) (s : St) (Q : Int32 → St → Prop) : Prop := wpc P mi me c pc ls st s fun r s' => ∃ v, r = some (.int v) ∧ Q v s'
abbrev wpcL (P : Cl) (mi : Nat) (me : Me) (c pc : Nat) (ls : Lv) (st : List Value) (s : St) (Q : Int64 → St → Prop) : Prop := wpc P mi me c pc ls st s fun r s' => ∃ v, r = some (.long v) ∧ Q v s'
abbrev wpcV (P : Cl) (mi : Nat) (me : Me) (c pc : Nat) (ls : Lv) (st : List Value) (s : St) (Q : St → Prop) : Prop := wpc P mi me c pc ls st s fun r s' => r = none ∧ Q s'
abbrev wplI (P : Cl) (Q : Lw) (sc : Sc) (mi : Nat) (me : Me) (pc : Nat) (ls : Lv) (st : List Value) (w : Wd) (R : Int32 → Wd → Prop) : Prop := wpl P Q sc mi me pc ls st w fun r w' => ∃ v, r = some (.int v) ∧ R v w'
abbrev wplL (P : Cl) (Q : Lw) (sc : Sc) (mi : Nat) (me : Me) (pc : Nat) (ls : Lv) (st : List Value) (w : Wd) (R : Int64 → Wd → Prop) : Prop := wpl P Q sc mi me pc ls st w fun r w' => ∃ v, r = some (.long v) ∧ R v w'
abbrev wplV (P : Cl) (Q : Lw) (sc : Sc) (mi : Nat) (me : Me) (pc : Nat) (ls : Lv) (st : List Value) (w : Wd) (R : Wd → Prop) : Prop := wpl P Q sc mi me pc ls st w fun r w' => r = none ∧ R w'
section C
variable {P : Cl} {mi : Nat} {me : Me} {c pc a N n : Nat} {ls : Lv} {r : List Value} {s s' : St} {Q : Option Value → St → Prop} {j : Int32}
theorem wpc_ldaI {v : Int32} (hf : fetch me.cd pc = some (.iaload, n)) (ha : P.al[a]? = some (0, N)) (hac : a < c) (hj : inb N j) (hv : gI s (a + 1) (ix j) = v) (hq : wpc P mi me c (pc + 1) ls (.int v :: r) s Q) : wpc P mi me c pc ls (.int j :: .ref (a + 1) :: r) s Q := by
  subst hv; exact wpc_lda hf (Or.inl ⟨rfl, rfl⟩) ha hac hj hq
theorem wpc_ldaZ {v : Int32} (hf : fetch me.cd pc = some (.baload, n)) (ha : P.al[a]? = some (1, N)) (hac : a < c) (hj : inb N j) (hv : gI s (a + 1) (ix j) = v) (hq : wpc P mi me c (pc + 1) ls (.int v :: r) s Q) : wpc P mi me c pc ls (.int j :: .ref (a + 1) :: r) s Q := by
  subst hv; exact wpc_lda hf (Or.inr (Or.inl ⟨rfl, rfl⟩)) ha hac hj hq
theorem wpc_ldaJ {v : Int64} (hf : fetch me.cd pc = some (.laload, n)) (ha : P.al[a]? = some (2, N)) (hac : a < c) (hj : inb N j) (hv : gL s (a + 1) (ix j) = v) (hq : wpc P mi me c (pc + 1) ls (.long v :: r) s Q) : wpc P mi me c pc ls (.int j :: .ref (a + 1) :: r) s Q := by
  subst hv; exact wpc_lda hf (Or.inr (Or.inr ⟨rfl, rfl⟩)) ha hac hj hq
theorem wpc_staI {z : Int32} (hf : fetch me.cd pc = some (.iastore, n)) (ha : P.al[a]? = some (0, N)) (hac : a < c) (hj : inb N j) (hs : sI s (a + 1) (ix j) z = s') (hq : wpc P mi me c (pc + 1) ls r s' Q) : wpc P mi me c pc ls (.int z :: .int j :: .ref (a + 1) :: r) s Q :=
  wpc_sta hf (Or.inl ⟨rfl, rfl, z, rfl, hs.symm⟩) ha hac hj hq
theorem wpc_staZ {z : Int32} (hf : fetch me.cd pc = some (.bastore, n)) (ha : P.al[a]? = some (1, N)) (hac : a < c) (hj : inb N j) (hs : sI s (a + 1) (ix j) (z &&& 1) = s') (hq : wpc P mi me c (pc + 1) ls r s' Q) : wpc P mi me c pc ls (.int z :: .int j :: .ref (a + 1) :: r) s Q :=
  wpc_sta hf (Or.inr (Or.inl ⟨rfl, rfl, z, rfl, hs.symm⟩)) ha hac hj hq
theorem wpc_staJ {z : Int64} (hf : fetch me.cd pc = some (.lastore, n)) (ha : P.al[a]? = some (2, N)) (hac : a < c) (hj : inb N j) (hs : sL s (a + 1) (ix j) z = s') (hq : wpc P mi me c (pc + 1) ls r s' Q) : wpc P mi me c pc ls (.long z :: .int j :: .ref (a + 1) :: r) s Q :=
  wpc_sta hf (Or.inr (Or.inr ⟨rfl, rfl, z, rfl, hs.symm⟩)) ha hac hj hq
theorem wpc_pl {i : Instr} {pc' : Nat} {ls' : Lv} {st st' : List Value} (hf : fetch me.cd pc = some (i, n)) (hi : ∀ (rt : Option Value → St → Rs) cl (k : Nat → Nat → Lv → List Value → St → Rs), cstep P mi me rt cl k i c pc ls st s = match pstep i pc ls st with | some (pc', ls', st') => k c pc' ls' st' s | none => none) (h : pstep i pc ls st = some (pc', ls', st')) (hq : wpc P mi me c pc' ls' st' s Q) : wpc P mi me c pc ls st s Q :=
  wpc_one hf (fun rt cl k => by rw [hi, h]) hq
theorem wpc_idiv {x y : Int32} (hf : fetch me.cd pc = some (.idiv, n)) (hy : ¬ y = 0) (hq : wpc P mi me c (pc + 1) ls (.int (x / y) :: r) s Q) : wpc P mi me c pc ls (.int y :: .int x :: r) s Q :=
  wpc_pl hf (fun _ _ _ => rfl) (by simp only [pstep, qstep]; rw [if_neg hy]) hq
theorem wpc_irem {x y : Int32} (hf : fetch me.cd pc = some (.irem, n)) (hy : ¬ y = 0) (hq : wpc P mi me c (pc + 1) ls (.int (x % y) :: r) s Q) : wpc P mi me c pc ls (.int y :: .int x :: r) s Q :=
  wpc_pl hf (fun _ _ _ => rfl) (by simp only [pstep, qstep]; rw [if_neg hy]) hq
theorem wpc_ldiv {x y : Int64} (hf : fetch me.cd pc = some (.ldiv, n)) (hy : ¬ y = 0) (hq : wpc P mi me c (pc + 1) ls (.long (x / y) :: r) s Q) : wpc P mi me c pc ls (.long y :: .long x :: r) s Q :=
  wpc_pl hf (fun _ _ _ => rfl) (by simp only [pstep, qstep]; rw [if_neg hy]) hq
end C
/-- the roads of a switch: one a value, from l on -/
def TS (x : Int32) (F : Int → Prop) : List Int → Int → Prop
  | [], _ => True
  | o :: r, l => (x.toInt = l → F o) ∧ TS x F r (l + 1)
theorem TS_at {x : Int32} {F : Int → Prop} : ∀ {os : List Int} {l : Int}, TS x F os l → l ≤ x.toInt → x.toInt < l + os.length → ∃ o, os[(x.toInt - l).toNat]? = some o ∧ F o := by
  intro os
  induction os with
  | nil => intro l _ h1 h2; simp at h2; omega
  | cons o r ih =>
    intro l h h1 h2
    by_cases e : x.toInt = l
    · exact ⟨o, by rw [e]; simp, h.1 e⟩
    · obtain ⟨o', q1, q2⟩ := ih h.2 (by omega) (by simp at h2; omega)
      refine ⟨o', ?_, q2⟩
      have : (x.toInt - l).toNat = (x.toInt - (l + 1)).toNat + 1 := by omega
      rw [this]; simpa using q1
theorem tsw_ok {x : Int32} {F : Int → Prop} {pc : Nat} {ls : Lv} {r : List Value} {d lo hi : Int} {offs : Array Int} (hd : 0 ≤ (pc : Int) + d) (ho : ∀ o ∈ offs.toList, 0 ≤ (pc : Int) + o) (hh : hi + 1 = lo + offs.toList.length)
    (h1 : TS x F offs.toList lo) (h2 : (x.toInt < lo ∨ x.toInt > hi) → F d) : ∃ o, F o ∧ pstep (.tableswitch d lo hi offs) pc ls (.int x :: r) = some (jmp pc o, ls, r) := by
  by_cases hx : x.toInt < lo ∨ x.toInt > hi
  · refine ⟨d, h2 hx, ?_⟩
    simp only [pstep, qstep]; rw [if_pos hx, if_pos hd]
  · obtain ⟨o, q1, q2⟩ := TS_at h1 (by omega) (by omega)
    have q3 : offs[(x.toInt - lo).toNat]? = some o := by rw [← Array.getElem?_toList]; exact q1
    refine ⟨o, q2, ?_⟩
    simp only [pstep, qstep]; rw [if_neg hx, q3]; dsimp only; rw [if_pos (ho o (List.mem_of_getElem? q1))]
theorem wpc_tsw {P : Cl} {mi : Nat} {me : Me} {c pc n : Nat} {ls : Lv} {r : List Value} {s : St} {Q : Option Value → St → Prop} {x : Int32} {d lo hi : Int} {offs : Array Int} (hf : fetch me.cd pc = some (.tableswitch d lo hi offs, n)) (hd : 0 ≤ (pc : Int) + d) (ho : ∀ o ∈ offs.toList, 0 ≤ (pc : Int) + o) (hh : hi + 1 = lo + offs.toList.length)
    (h1 : TS x (fun o => wpc P mi me c (jmp pc o) ls r s Q) offs.toList lo) (h2 : (x.toInt < lo ∨ x.toInt > hi) → wpc P mi me c (jmp pc d) ls r s Q) : wpc P mi me c pc ls (.int x :: r) s Q := by
  obtain ⟨o, q1, q2⟩ := tsw_ok (ls := ls) (r := r) hd ho hh h1 h2
  exact wpc_pl hf (fun _ _ _ => rfl) q2 q1
section L
variable {P : Cl} {Q : Lw} {sc : Sc} {mi : Nat} {me : Me} {pc n : Nat} {ls : Lv} {r : List Value} {w : Wd} {R : Option Value → Wd → Prop}
theorem wpl_pl {i : Instr} {pc' : Nat} {ls' : Lv} {st st' : List Value} (hf : fetch me.cd pc = some (i, n)) (hi : isPl i = true) (h : pstep i pc ls st = some (pc', ls', st')) (hq : wpl P Q sc mi me pc' ls' st' w R) : wpl P Q sc mi me pc ls st w R :=
  wpl_one hf (fun rt cc cl k => by rw [lstep_pl hi, h]) hq
theorem wpl_idiv {x y : Int32} (hf : fetch me.cd pc = some (.idiv, n)) (hy : ¬ y = 0) (hq : wpl P Q sc mi me (pc + 1) ls (.int (x / y) :: r) w R) : wpl P Q sc mi me pc ls (.int y :: .int x :: r) w R :=
  wpl_pl hf rfl (by simp only [pstep, qstep]; rw [if_neg hy]) hq
theorem wpl_irem {x y : Int32} (hf : fetch me.cd pc = some (.irem, n)) (hy : ¬ y = 0) (hq : wpl P Q sc mi me (pc + 1) ls (.int (x % y) :: r) w R) : wpl P Q sc mi me pc ls (.int y :: .int x :: r) w R :=
  wpl_pl hf rfl (by simp only [pstep, qstep]; rw [if_neg hy]) hq
theorem wpl_ldiv {x y : Int64} (hf : fetch me.cd pc = some (.ldiv, n)) (hy : ¬ y = 0) (hq : wpl P Q sc mi me (pc + 1) ls (.long (x / y) :: r) w R) : wpl P Q sc mi me pc ls (.long y :: .long x :: r) w R :=
  wpl_pl hf rfl (by simp only [pstep, qstep]; rw [if_neg hy]) hq
theorem wpl_tsw {x : Int32} {d lo hi : Int} {offs : Array Int} (hf : fetch me.cd pc = some (.tableswitch d lo hi offs, n)) (hd : 0 ≤ (pc : Int) + d) (ho : ∀ o ∈ offs.toList, 0 ≤ (pc : Int) + o) (hh : hi + 1 = lo + offs.toList.length)
    (h1 : TS x (fun o => wpl P Q sc mi me (jmp pc o) ls r w R) offs.toList lo) (h2 : (x.toInt < lo ∨ x.toInt > hi) → wpl P Q sc mi me (jmp pc d) ls r w R) : wpl P Q sc mi me pc ls (.int x :: r) w R := by
  obtain ⟨o, q1, q2⟩ := tsw_ok (ls := ls) (r := r) hd ho hh h1 h2
  exact wpl_pl hf rfl q2 q1
end L
/-! the links, by lists -/
def AllA {α : Type} (Q : Nat → α → Prop) : List (Nat × α) → Prop
  | [] => True
  | (a, b) :: r => Q a b ∧ AllA Q r
theorem asc_all {α : Type} {Q : Nat → α → Prop} {l : List (Nat × α)} (h : AllA Q l) : ∀ k v, asc l k = some v → Q k v := by
  induction l with
  | nil => intro k v e; cases e
  | cons x r ih =>
    intro k v e
    obtain ⟨a, b⟩ := x
    simp only [asc] at e
    cases q : Nat.beq a k
    · rw [q] at e; exact ih h.2 k v e
    · rw [q] at e; cases e
      obtain rfl := Nat.eq_of_beq_eq_true q
      exact h.1
def AllL (Q : Nat → Nat → Prop) : List (Nat × Nat) → Prop
  | [] => True
  | (a, b) :: r => Q a b ∧ AllL Q r
theorem lst_all {Q : Nat → Nat → Prop} {l : List (Nat × Nat)} (h : AllL Q l) : ∀ (j tt N : Nat), l[j]? = some (tt, N) → Q tt N := by
  induction l with
  | nil => intro j tt N e; simp at e
  | cons x r ih =>
    intro j tt N e
    obtain ⟨a, b⟩ := x
    cases j with
    | zero => simp at e; obtain ⟨rfl, rfl⟩ := e; exact h.1
    | succ j => simp at e; exact ih h.2 j tt N e
def dst1 (k : Nat) (fe : Fe) : List (Nat × Fe) → Bool
  | [] => true
  | (k', fe') :: r => (!(fe.1 == fe'.1)) && (decide (fe.2.2.1 < 3) || !(Nat.beq fe.2.2.1 fe'.2.2.1)) && dst1 k fe r
def dst : List (Nat × Fe) → Bool
  | [] => true
  | (k, fe) :: r => dst1 k fe r && dst r
theorem dst1_ok {k : Nat} {fe : Fe} {l : List (Nat × Fe)} (h : dst1 k fe l = true) : ∀ k' fe', asc l k' = some fe' → fe.1 ≠ fe'.1 ∧ (3 ≤ fe.2.2.1 → fe.2.2.1 ≠ fe'.2.2.1) := by
  induction l with
  | nil => intro k' fe' e; cases e
  | cons x r ih =>
    intro k' fe' e
    obtain ⟨a, b⟩ := x
    simp only [dst1, Bool.and_eq_true] at h
    obtain ⟨⟨h1, h2⟩, h3⟩ := h
    simp only [asc] at e
    cases q : Nat.beq a k'
    · rw [q] at e; exact ih h3 k' fe' e
    · rw [q] at e; cases e
      refine ⟨fun q2 => by rw [q2] at h1; simp at h1, fun q2 q3 => ?_⟩
      rw [q3] at h2 q2
      simp only [Bool.or_eq_true, decide_eq_true_eq, Bool.not_eq_true'] at h2
      rcases h2 with h2 | h2
      · omega
      · rw [Nat.beq_refl] at h2; cases h2
theorem dst_ok {l : List (Nat × Fe)} (h : dst l = true) : ∀ (k k' : Nat) (fe fe' : Fe), asc l k = some fe → asc l k' = some fe' → k ≠ k' → fe.1 ≠ fe'.1 ∧ (3 ≤ fe.2.2.1 → fe.2.2.1 ≠ fe'.2.2.1) := by
  induction l with
  | nil => intro k k' fe fe' e; cases e
  | cons x r ih =>
    intro k k' fe fe' e e' hne
    obtain ⟨a, b⟩ := x
    simp only [dst, Bool.and_eq_true] at h
    simp only [asc] at e e'
    cases q : Nat.beq a k <;> cases q' : Nat.beq a k' <;> rw [q] at e <;> rw [q'] at e'
    · exact ih h.2 k k' fe fe' e e' hne
    · cases e'
      obtain ⟨h1, h2⟩ := dst1_ok h.1 k fe e
      exact ⟨Ne.symm h1, fun z1 z2 => h2 (z2 ▸ z1) z2.symm⟩
    · cases e; exact dst1_ok h.1 k' fe' e'
    · exact absurd ((Nat.eq_of_beq_eq_true q).symm.trans (Nat.eq_of_beq_eq_true q')) hne
def chk (bytes : ByteArray) : Cd → Bool
  | [] => true
  | (pc, i, n) :: r => (match decode bytes pc with | .ok (i', n') => decide (i' = i ∧ n' = n) | .error _ => false) && (isSw i || Nat.beq n (ilen i)) && chk bytes r
theorem chk_ok {bytes : ByteArray} {cd : Cd} (h : chk bytes cd = true) : ∀ pc i n, fetch cd pc = some (i, n) → decode bytes pc = .ok (i, n) ∧ (isSw i = true ∨ n = ilen i) := by
  induction cd with
  | nil => intro pc i n e; cases e
  | cons x r ih =>
    intro pc i n e
    obtain ⟨a, i', n'⟩ := x
    simp only [chk, Bool.and_eq_true] at h
    obtain ⟨⟨h1, h2⟩, h3⟩ := h
    simp only [fetch] at e
    cases q : Nat.beq a pc
    · rw [q] at e; exact ih h3 pc i n e
    · rw [q] at e; cases e
      obtain rfl := Nat.eq_of_beq_eq_true q
      refine ⟨?_, ?_⟩
      · split at h1
        · rename_i i2 n2 hd
          obtain ⟨rfl, rfl⟩ := of_decide_eq_true h1
          exact hd
        · cases h1
      · simp only [Bool.or_eq_true] at h2
        exact h2.imp id Nat.eq_of_beq_eq_true
/-- the array that the law is handed -/
theorem script_of {s : State} {args : Array Value} {a : Addr} {cl : Cell} {t : Term} {k : Int32} (hf : Fit s) (A : Arr s s.heap a cl .int) (ev : t.eval args s none [] s = some (.ref a)) (hl : (Cond.le (Term.length t) (Term.int k)).value args s none s [] = some true) :
    (cl.slots.size < 2 ^ 31 ∧ (cl.slots.size : Int) ≤ k.toInt) ∧ SRep s s.heap a s.heap.size (some (cl.slots.size, fun i => match cl.slots[i]? with | some (.int x) => x | _ => 0)) := by
  obtain ⟨x, y, h1, h2, -⟩ := cmp_v (Or.inr (Or.inr hl))
  have hz : cl.slots.size < 2 ^ 31 := by
    have q : (Term.length t).eval args s none [] s = if cl.slots.size < 2 ^ 31 then some (.int cl.slots.size.toInt32) else none := by simp [Term.eval, ev, A.fin (Vm.Alike.refl _)]
    rw [h1] at q
    split at q
    · assumption
    · cases q
  have h1' := len_f ev (A.fin (Vm.Alike.refl _)) hz (args := args) (first := s) (o := none) (idx := [])
  have hle := gotT (Cond.le_ints h1' (Term.int_eval k)) hl
  rw [Int32.le_iff_toInt_le, len_toInt hz] at hle
  refine ⟨⟨hz, hle⟩, A.lt, cl, A, rfl, fun i hi => ?_⟩
  have e1 : cl.slots[i]? = some cl.slots[i] := Array.getElem?_eq_getElem hi
  have q := elem_fit hf A (j := i.toInt32) (idx_in hi hz)
  have e2 : i.toInt32.toNatClampNeg = i := by
    have := len_toInt (n := i) (by omega)
    simp only [Int32.toNatClampNeg, this]; rfl
  rw [e2] at q
  obtain ⟨v, hv, hfv⟩ := q
  obtain ⟨x, rfl⟩ := fit_I hfv (Or.inl rfl)
  rw [hv]
  dsimp only
  rw [hv]
end Jvm.LM
namespace Jvm.LM
theorem law_run {P : Cl} {Q : Lw} {sc : Sc} {as : List Value} (h : lalI P Q sc 0 as W0 fun v _ => v = 1) {me : Me} (hme : asc Q.ms 0 = some me) : ∃ f w', lexec P Q sc f 0 me 0 (lay as me.ml) [] W0 = some (some (.int 1), w') := by
  obtain ⟨f, v, w', h1, v', rfl, rfl⟩ := h
  refine ⟨f, w', ?_⟩
  simp only [lcall, hme] at h1
  split at h1
  · exact h1
  · cases h1
end Jvm.LM

namespace Jvm.LM
open Jvm.RoadKit
/-! numbers -/
theorem i32_add {x y : Int32} (h1 : -2147483648 ≤ x.toInt + y.toInt) (h2 : x.toInt + y.toInt < 2147483648) : (x + y).toInt = x.toInt + y.toInt := by
  have := c_iadd x y; have := rng32 (x + y); omega
theorem i32_sub {x y : Int32} (h1 : -2147483648 ≤ x.toInt - y.toInt) (h2 : x.toInt - y.toInt < 2147483648) : (x - y).toInt = x.toInt - y.toInt := by
  have := c_isub x y; have := rng32 (x - y); omega
theorem i32_mul {x y : Int32} (h1 : -2147483648 ≤ x.toInt * y.toInt) (h2 : x.toInt * y.toInt < 2147483648) : (x * y).toInt = x.toInt * y.toInt := by
  have := c_imul x y; have := rng32 (x * y); omega
theorem ix_int {i : Int32} (h : 0 ≤ i.toInt) : (ix i : Int) = i.toInt := by simp only [ix, Int32.toNatClampNeg]; omega
theorem ix_inj {i j : Int32} (hi : 0 ≤ i.toInt) (hj : 0 ≤ j.toInt) : ix i = ix j ↔ i = j := by
  have a := ix_int hi; have b := ix_int hj
  rw [← Int32.toInt_inj]; omega
theorem i32_lt {x y : Int32} : x < y ↔ x.toInt < y.toInt := Int32.lt_iff_toInt_lt
theorem i32_eq {x y : Int32} : x = y ↔ x.toInt = y.toInt := Int32.toInt_inj.symm
/-- a loop that counts up to N: from the next turn to this one -/
theorem loop_up {F : Int32 → Prop} (N : Int) (hN : N < 2147483647) (step : ∀ i, 0 ≤ i.toInt → i.toInt < N → (i + 1).toInt = i.toInt + 1 → F (i + 1) → F i) (last : ∀ i, i.toInt = N → F i) : ∀ i, 0 ≤ i.toInt → i.toInt ≤ N → F i := by
  have key : ∀ n : Nat, ∀ i : Int32, 0 ≤ i.toInt → i.toInt + n = N → F i := by
    intro n
    induction n with
    | zero => intro i h0 h1; exact last i (by omega)
    | succ n ih =>
      intro i h0 h1
      have e : (i + 1).toInt = i.toInt + 1 := i32_add (by simp; omega) (by simp; omega)
      exact step i h0 (by omega) e (ih (i + 1) (by omega) (by omega))
  intro i h0 h1
  exact key (N - i.toInt).toNat i h0 (by omega)
theorem cmpL_lt {x y : Int64} : Jvm.Free.XT.cmpL x y < 0 ↔ x < y := by
  unfold Jvm.Free.XT.cmpL; split
  · rename_i h; exact ⟨fun q => absurd q (by decide), fun q => by rw [Int64.lt_iff_toInt_lt] at h q; omega⟩
  · split
    · rename_i h; subst h; exact ⟨fun q => absurd q (by decide), fun q => by rw [Int64.lt_iff_toInt_lt] at q; omega⟩
    · rename_i h1 h2
      refine ⟨fun _ => ?_, fun _ => by decide⟩
      rw [Int64.lt_iff_toInt_lt] at h1 ⊢; rw [← Int64.toInt_inj] at h2; omega
theorem cmpL_gt {x y : Int64} : 0 < Jvm.Free.XT.cmpL x y ↔ y < x := by
  unfold Jvm.Free.XT.cmpL; split
  · rename_i h; exact ⟨fun _ => h, fun _ => by decide⟩
  · rename_i h; split
    · exact ⟨fun q => absurd q (by decide), fun q => absurd q h⟩
    · exact ⟨fun q => absurd q (by decide), fun q => absurd q h⟩
theorem cmpL_eq {x y : Int64} : Jvm.Free.XT.cmpL x y = 0 ↔ x = y := by
  unfold Jvm.Free.XT.cmpL; split
  · rename_i h; exact ⟨fun q => absurd q (by decide), fun q => by subst q; rw [Int64.lt_iff_toInt_lt] at h; omega⟩
  · split
    · rename_i h; exact ⟨fun _ => h, fun _ => rfl⟩
    · rename_i h1 h2; exact ⟨fun q => absurd q (by decide), fun q => absurd q h2⟩
end Jvm.LM

namespace Jvm.Pilot.@@N@@
open Jvm Jvm.ClassFile Sem Op Lib Jvm.Free Jvm.Stand Jvm.LawKit Jvm.RoadKit Jvm.LM Bundle Jvm.Pilot.@@N@@.Jvm.D
def cm0 : Me := ("<init>", "(I)V", 1, 0, [(0, .aload_n 0, 1), (1, .invokespecial 1, 3), (4, .aload_n 0, 1), (5, .sipush 128, 3), (8, .newarray .int, 2), (10, .putfield 7, 3), (13, .aload_n 0, 1), (14, .sipush 128, 3), (17, .newarray .int, 2), (19, .putfield 13, 3), (22, .aload_n 0, 1), (23, .bipush 64, 2), (25, .newarray .int, 2), (27, .putfield 16, 3), (30, .aload_n 0, 1), (31, .bipush 64, 2), (33, .newarray .int, 2), (35, .putfield 19, 3), (38, .aload_n 0, 1), (39, .bipush 64, 2), (41, .newarray .int, 2), (43, .putfield 22, 3), (46, .aload_n 0, 1), (47, .bipush 64, 2), (49, .newarray .int, 2), (51, .putfield 25, 3), (54, .aload_n 0, 1), (55, .sipush 128, 3), (58, .newarray .int, 2), (60, .putfield 28, 3), (63, .aload_n 0, 1), (64, .sipush 128, 3), (67, .newarray .int, 2), (69, .putfield 31, 3), (72, .aload_n 0, 1), (73, .sipush 128, 3), (76, .newarray .int, 2), (78, .putfield 34, 3), (81, .aload_n 0, 1), (82, .sipush 128, 3), (85, .newarray .int, 2), (87, .putfield 37, 3), (90, .iload_n 1, 1), (91, .istore_n 2, 1), (92, .iload_n 2, 1), (93, .iconst 2, 1), (94, .if_icmp .ge 5, 3), (97, .iconst 2, 1), (98, .istore_n 2, 1), (99, .iload_n 2, 1), (100, .bipush 16, 2), (102, .if_icmp .le 6, 3), (105, .bipush 16, 2), (107, .istore_n 2, 1), (108, .aload_n 0, 1), (109, .iload_n 2, 1), (110, .putfield 40, 3), (113, .aload_n 0, 1), (114, .iconst 0, 1), (115, .putfield 44, 3), (118, .aload_n 0, 1), (119, .iconst 0, 1), (120, .putfield 47, 3), (123, .aload_n 0, 1), (124, .iconst 0, 1), (125, .putfield 50, 3), (128, .aload_n 0, 1), (129, .iconst 0, 1), (130, .putfield 54, 3), (133, .aload_n 0, 1), (134, .invokevirtual 57, 3), (137, .aload_n 0, 1), (138, .invokevirtual 60, 3), (141, .return_, 1)], 3, 1, 12)
def cm3 : Me := ("appendOld", "(I)Z", 1, 2, [(0, .aload_n 0, 1), (1, .getfield 50, 3), (4, .ifCond .eq 5, 3), (7, .iconst 0, 1), (8, .ireturn, 1), (9, .aload_n 0, 1), (10, .getfield 44, 3), (13, .sipush 128, 3), (16, .if_icmp .lt 5, 3), (19, .iconst 0, 1), (20, .ireturn, 1), (21, .aload_n 0, 1), (22, .getfield 7, 3), (25, .aload_n 0, 1), (26, .getfield 44, 3), (29, .iload_n 1, 1), (30, .sipush 255, 3), (33, .iand, 1), (34, .iastore, 1), (35, .aload_n 0, 1), (36, .dup, 1), (37, .getfield 44, 3), (40, .iconst 1, 1), (41, .iadd, 1), (42, .putfield 44, 3), (45, .iconst 1, 1), (46, .ireturn, 1)], 2, 0, 0)
def cm4 : Me := ("appendNew", "(I)Z", 1, 2, [(0, .aload_n 0, 1), (1, .getfield 47, 3), (4, .sipush 128, 3), (7, .if_icmp .lt 5, 3), (10, .iconst 0, 1), (11, .ireturn, 1), (12, .aload_n 0, 1), (13, .getfield 13, 3), (16, .aload_n 0, 1), (17, .getfield 47, 3), (20, .iload_n 1, 1), (21, .sipush 255, 3), (24, .iand, 1), (25, .iastore, 1), (26, .aload_n 0, 1), (27, .dup, 1), (28, .getfield 47, 3), (31, .iconst 1, 1), (32, .iadd, 1), (33, .putfield 47, 3), (36, .aload_n 0, 1), (37, .invokevirtual 57, 3), (40, .aload_n 0, 1), (41, .invokevirtual 60, 3), (44, .iconst 1, 1), (45, .ireturn, 1)], 2, 1, 12)
def cm5 : Me := ("sign", "()I", 0, 1, [(0, .aload_n 0, 1), (1, .getfield 50, 3), (4, .ifCond .eq 5, 3), (7, .iconst (-1), 1), (8, .ireturn, 1), (9, .aload_n 0, 1), (10, .aload_n 0, 1), (11, .getfield 44, 3), (14, .aload_n 0, 1), (15, .getfield 40, 3), (18, .iadd, 1), (19, .iconst 1, 1), (20, .isub, 1), (21, .aload_n 0, 1), (22, .getfield 40, 3), (25, .idiv, 1), (26, .putfield 54, 3), (29, .aload_n 0, 1), (30, .getfield 54, 3), (33, .bipush 64, 2), (35, .if_icmp .le 9, 3), (38, .aload_n 0, 1), (39, .bipush 64, 2), (41, .putfield 54, 3), (44, .iconst 0, 1), (45, .istore_n 1, 1), (46, .iload_n 1, 1), (47, .aload_n 0, 1), (48, .getfield 54, 3), (51, .if_icmp .ge 14, 3), (54, .aload_n 0, 1), (55, .iload_n 1, 1), (56, .invokevirtual 63, 3), (59, .iinc 1 1, 3), (62, .goto (-16), 3), (65, .aload_n 0, 1), (66, .invokevirtual 67, 3), (69, .aload_n 0, 1), (70, .iconst 1, 1), (71, .putfield 50, 3), (74, .aload_n 0, 1), (75, .getfield 54, 3), (78, .ireturn, 1)], 2, 2, 36)
def cm6 : Me := ("computeDelta", "()I", 0, 1, [(0, .aload_n 0, 1), (1, .getfield 50, 3), (4, .ifCond .ne 5, 3), (7, .iconst (-1), 1), (8, .ireturn, 1), (9, .aload_n 0, 1), (10, .invokevirtual 57, 3), (13, .aload_n 0, 1), (14, .invokevirtual 60, 3), (17, .aload_n 0, 1), (18, .invokevirtual 70, 3), (21, .aload_n 0, 1), (22, .iconst 1, 1), (23, .putfield 73, 3), (26, .aload_n 0, 1), (27, .getfield 76, 3), (30, .ireturn, 1)], 1, 3, 56)
def cm7 : Me := ("patch", "()I", 0, 1, [(0, .aload_n 0, 1), (1, .getfield 73, 3), (4, .ifCond .ne 5, 3), (7, .iconst (-1), 1), (8, .ireturn, 1), (9, .aload_n 0, 1), (10, .iconst 0, 1), (11, .putfield 79, 3), (14, .iconst 0, 1), (15, .istore_n 1, 1), (16, .iconst 0, 1), (17, .istore_n 2, 1), (18, .iload_n 2, 1), (19, .aload_n 0, 1), (20, .getfield 76, 3), (23, .if_icmp .ge 51, 3), (26, .iload_n 2, 1), (27, .sipush 128, 3), (30, .if_icmp .ge 44, 3), (33, .aload_n 0, 1), (34, .getfield 28, 3), (37, .iload_n 2, 1), (38, .iaload, 1), (39, .iconst 1, 1), (40, .if_icmp .ne 16, 3), (43, .aload_n 0, 1), (44, .aload_n 0, 1), (45, .getfield 31, 3), (48, .iload_n 2, 1), (49, .iaload, 1), (50, .invokevirtual 82, 3), (53, .goto 15, 3), (56, .aload_n 0, 1), (57, .iload_n 1, 1), (58, .aload_n 0, 1), (59, .getfield 31, 3), (62, .iload_n 2, 1), (63, .iaload, 1), (64, .invokevirtual 85, 3), (67, .istore_n 1, 1), (68, .iinc 2 1, 3), (71, .goto (-53), 3), (74, .aload_n 0, 1), (75, .iconst 1, 1), (76, .putfield 89, 3), (79, .aload_n 0, 1), (80, .getfield 79, 3), (83, .ireturn, 1)], 3, 2, 32)
def cm14 : Me := ("getOpKind", "(I)I", 1, 1, [(0, .aload_n 0, 1), (1, .iload_n 1, 1), (2, .invokevirtual 96, 3), (5, .ifCond .ne 5, 3), (8, .iconst 0, 1), (9, .ireturn, 1), (10, .aload_n 0, 1), (11, .getfield 28, 3), (14, .iload_n 1, 1), (15, .iaload, 1), (16, .ireturn, 1)], 2, 1, 13)
def cm15 : Me := ("getOpValue", "(I)I", 1, 1, [(0, .aload_n 0, 1), (1, .iload_n 1, 1), (2, .invokevirtual 96, 3), (5, .ifCond .ne 5, 3), (8, .iconst (-1), 1), (9, .ireturn, 1), (10, .aload_n 0, 1), (11, .getfield 31, 3), (14, .iload_n 1, 1), (15, .iaload, 1), (16, .ireturn, 1)], 2, 1, 13)
def cm17 : Me := ("getOutByte", "(I)I", 1, 1, [(0, .aload_n 0, 1), (1, .getfield 89, 3), (4, .ifCond .eq 22, 3), (7, .iload_n 1, 1), (8, .ifCond .lt 18, 3), (11, .iload_n 1, 1), (12, .aload_n 0, 1), (13, .getfield 79, 3), (16, .if_icmp .ge 10, 3), (19, .iload_n 1, 1), (20, .sipush 128, 3), (23, .if_icmp .lt 5, 3), (26, .iconst (-1), 1), (27, .ireturn, 1), (28, .aload_n 0, 1), (29, .getfield 37, 3), (32, .iload_n 1, 1), (33, .iaload, 1), (34, .ireturn, 1)], 2, 0, 0)
def cm18 : Me := ("clearDelta", "()V", 0, 0, [(0, .aload_n 0, 1), (1, .iconst 0, 1), (2, .putfield 73, 3), (5, .aload_n 0, 1), (6, .iconst 0, 1), (7, .putfield 76, 3), (10, .aload_n 0, 1), (11, .iconst 0, 1), (12, .putfield 99, 3), (15, .return_, 1)], 1, 0, 0)
def cm19 : Me := ("clearOutput", "()V", 0, 0, [(0, .aload_n 0, 1), (1, .iconst 0, 1), (2, .putfield 89, 3), (5, .aload_n 0, 1), (6, .iconst 0, 1), (7, .putfield 79, 3), (10, .return_, 1)], 1, 0, 0)
def cm21 : Me := ("validOp", "(I)Z", 1, 2, [(0, .aload_n 0, 1), (1, .getfield 73, 3), (4, .ifCond .eq 26, 3), (7, .iload_n 1, 1), (8, .ifCond .lt 22, 3), (11, .iload_n 1, 1), (12, .aload_n 0, 1), (13, .getfield 76, 3), (16, .if_icmp .ge 14, 3), (19, .iload_n 1, 1), (20, .sipush 128, 3), (23, .if_icmp .ge 7, 3), (26, .iconst 1, 1), (27, .goto 4, 3), (30, .iconst 0, 1), (31, .ireturn, 1)], 2, 0, 0)
def cm22 : Me := ("blockLen", "(I)I", 1, 1, [(0, .iload_n 1, 1), (1, .ifCond .lt 9, 3), (4, .iload_n 1, 1), (5, .bipush 64, 2), (7, .if_icmp .lt 5, 3), (10, .iconst 0, 1), (11, .ireturn, 1), (12, .iload_n 1, 1), (13, .aload_n 0, 1), (14, .getfield 40, 3), (17, .imul, 1), (18, .istore_n 2, 1), (19, .iload_n 2, 1), (20, .aload_n 0, 1), (21, .getfield 44, 3), (24, .if_icmp .lt 5, 3), (27, .iconst 0, 1), (28, .ireturn, 1), (29, .iload_n 2, 1), (30, .aload_n 0, 1), (31, .getfield 40, 3), (34, .iadd, 1), (35, .istore_n 3, 1), (36, .iload_n 3, 1), (37, .aload_n 0, 1), (38, .getfield 44, 3), (41, .if_icmp .le 8, 3), (44, .aload_n 0, 1), (45, .getfield 44, 3), (48, .istore_n 3, 1), (49, .iload_n 3, 1), (50, .iload_n 2, 1), (51, .isub, 1), (52, .ireturn, 1)], 4, 0, 0)
def cm23 : Me := ("computeBlockSums", "(I)V", 1, 0, [(0, .iload_n 1, 1), (1, .aload_n 0, 1), (2, .getfield 40, 3), (5, .imul, 1), (6, .istore_n 2, 1), (7, .aload_n 0, 1), (8, .iload_n 1, 1), (9, .invokevirtual 102, 3), (12, .istore_n 3, 1), (13, .iconst 0, 1), (14, .istore 4, 2), (16, .iconst 0, 1), (17, .istore 5, 2), (19, .ldc 106, 2), (21, .istore 6, 2), (23, .iconst 0, 1), (24, .istore 7, 2), (26, .iload 7, 2), (28, .iload_n 3, 1), (29, .if_icmp .ge 78, 3), (32, .iload 7, 2), (34, .bipush 16, 2), (36, .if_icmp .ge 71, 3), (39, .iload_n 2, 1), (40, .iload 7, 2), (42, .iadd, 1), (43, .istore 8, 2), (45, .iload 8, 2), (47, .ifCond .lt 60, 3), (50, .iload 8, 2), (52, .aload_n 0, 1), (53, .getfield 44, 3), (56, .if_icmp .lt 6, 3), (59, .goto 48, 3), (62, .aload_n 0, 1), (63, .getfield 7, 3), (66, .iload 8, 2), (68, .iaload, 1), (69, .istore 9, 2), (71, .iload 4, 2), (73, .iload 9, 2), (75, .iadd, 1), (76, .ldc 107, 2), (78, .iand, 1), (79, .istore 4, 2), (81, .iload 5, 2), (83, .iload 4, 2), (85, .iadd, 1), (86, .ldc 107, 2), (88, .iand, 1), (89, .istore 5, 2), (91, .iload 6, 2), (93, .iload 9, 2), (95, .ixor, 1), (96, .ldc 108, 2), (98, .imul, 1), (99, .istore 6, 2), (101, .iinc 7 1, 3), (104, .goto (-78), 3), (107, .aload_n 0, 1), (108, .getfield 16, 3), (111, .iload_n 1, 1), (112, .iload 4, 2), (114, .iload 5, 2), (116, .ldc 109, 2), (118, .imul, 1), (119, .iadd, 1), (120, .iastore, 1), (121, .aload_n 0, 1), (122, .getfield 19, 3), (125, .iload_n 1, 1), (126, .iload 6, 2), (128, .iastore, 1), (129, .return_, 1)], 10, 1, 15)
def cm24 : Me := ("bucketOf", "(II)I", 2, 1, [(0, .iload_n 1, 1), (1, .iload_n 2, 1), (2, .bipush 7, 2), (4, .imul, 1), (5, .ixor, 1), (6, .iload_n 2, 1), (7, .bipush 6, 2), (9, .iushr, 1), (10, .ixor, 1), (11, .bipush 63, 2), (13, .iand, 1), (14, .ireturn, 1)], 3, 0, 0)
def cm25 : Me := ("buildTable", "()V", 0, 0, [(0, .iconst 0, 1), (1, .istore_n 1, 1), (2, .iload_n 1, 1), (3, .bipush 64, 2), (5, .if_icmp .ge 23, 3), (8, .aload_n 0, 1), (9, .getfield 22, 3), (12, .iload_n 1, 1), (13, .iconst (-1), 1), (14, .iastore, 1), (15, .aload_n 0, 1), (16, .getfield 25, 3), (19, .iload_n 1, 1), (20, .iconst (-1), 1), (21, .iastore, 1), (22, .iinc 1 1, 3), (25, .goto (-23), 3), (28, .aload_n 0, 1), (29, .getfield 54, 3), (32, .iconst 1, 1), (33, .isub, 1), (34, .istore_n 1, 1), (35, .iload_n 1, 1), (36, .ifCond .lt 66, 3), (39, .iload_n 1, 1), (40, .bipush 64, 2), (42, .if_icmp .ge 54, 3), (45, .aload_n 0, 1), (46, .iload_n 1, 1), (47, .invokevirtual 102, 3), (50, .aload_n 0, 1), (51, .getfield 40, 3), (54, .if_icmp .ne 42, 3), (57, .aload_n 0, 1), (58, .getfield 16, 3), (61, .iload_n 1, 1), (62, .iaload, 1), (63, .istore_n 2, 1), (64, .aload_n 0, 1), (65, .iload_n 2, 1), (66, .ldc 107, 2), (68, .iand, 1), (69, .iload_n 2, 1), (70, .bipush 16, 2), (72, .iushr, 1), (73, .invokevirtual 110, 3), (76, .istore_n 3, 1), (77, .aload_n 0, 1), (78, .getfield 25, 3), (81, .iload_n 1, 1), (82, .aload_n 0, 1), (83, .getfield 22, 3), (86, .iload_n 3, 1), (87, .iaload, 1), (88, .iastore, 1), (89, .aload_n 0, 1), (90, .getfield 22, 3), (93, .iload_n 3, 1), (94, .iload_n 1, 1), (95, .iastore, 1), (96, .iinc 1 (-1), 3), (99, .goto (-64), 3), (102, .return_, 1)], 4, 1, 15)
def cm26 : Me := ("windowSums", "(II)V", 2, 0, [(0, .iconst 0, 1), (1, .istore_n 3, 1), (2, .iconst 0, 1), (3, .istore 4, 2), (5, .iconst 0, 1), (6, .istore 5, 2), (8, .iload 5, 2), (10, .iload_n 2, 1), (11, .if_icmp .ge 61, 3), (14, .iload 5, 2), (16, .bipush 16, 2), (18, .if_icmp .ge 54, 3), (21, .iload_n 1, 1), (22, .iload 5, 2), (24, .iadd, 1), (25, .istore 6, 2), (27, .iload 6, 2), (29, .ifCond .lt 43, 3), (32, .iload 6, 2), (34, .aload_n 0, 1), (35, .getfield 47, 3), (38, .if_icmp .lt 6, 3), (41, .goto 31, 3), (44, .iload_n 3, 1), (45, .aload_n 0, 1), (46, .getfield 13, 3), (49, .iload 6, 2), (51, .iaload, 1), (52, .iadd, 1), (53, .ldc 107, 2), (55, .iand, 1), (56, .istore_n 3, 1), (57, .iload 4, 2), (59, .iload_n 3, 1), (60, .iadd, 1), (61, .ldc 107, 2), (63, .iand, 1), (64, .istore 4, 2), (66, .iinc 5 1, 3), (69, .goto (-61), 3), (72, .aload_n 0, 1), (73, .iload_n 3, 1), (74, .putfield 113, 3), (77, .aload_n 0, 1), (78, .iload 4, 2), (80, .putfield 116, 3), (83, .return_, 1)], 7, 0, 0)
def cm27 : Me := ("windowStrong", "(II)I", 2, 1, [(0, .ldc 106, 2), (2, .istore_n 3, 1), (3, .iconst 0, 1), (4, .istore 4, 2), (6, .iload 4, 2), (8, .iload_n 2, 1), (9, .if_icmp .ge 52, 3), (12, .iload 4, 2), (14, .bipush 16, 2), (16, .if_icmp .ge 45, 3), (19, .iload_n 1, 1), (20, .iload 4, 2), (22, .iadd, 1), (23, .istore 5, 2), (25, .iload 5, 2), (27, .ifCond .lt 34, 3), (30, .iload 5, 2), (32, .aload_n 0, 1), (33, .getfield 47, 3), (36, .if_icmp .lt 6, 3), (39, .goto 22, 3), (42, .iload_n 3, 1), (43, .aload_n 0, 1), (44, .getfield 13, 3), (47, .iload 5, 2), (49, .iaload, 1), (50, .ixor, 1), (51, .ldc 108, 2), (53, .imul, 1), (54, .istore_n 3, 1), (55, .iinc 4 1, 3), (58, .goto (-52), 3), (61, .iload_n 3, 1), (62, .ireturn, 1)], 6, 0, 0)
def cm28 : Me := ("rollWindow", "(I)V", 1, 0, [(0, .iload_n 1, 1), (1, .aload_n 0, 1), (2, .getfield 40, 3), (5, .iadd, 1), (6, .istore_n 2, 1), (7, .iload_n 1, 1), (8, .ifCond .lt 11, 3), (11, .iload_n 2, 1), (12, .aload_n 0, 1), (13, .getfield 47, 3), (16, .if_icmp .lt 4, 3), (19, .return_, 1), (20, .aload_n 0, 1), (21, .getfield 13, 3), (24, .iload_n 1, 1), (25, .iaload, 1), (26, .istore_n 3, 1), (27, .aload_n 0, 1), (28, .getfield 13, 3), (31, .iload_n 2, 1), (32, .iaload, 1), (33, .istore 4, 2), (35, .aload_n 0, 1), (36, .aload_n 0, 1), (37, .getfield 113, 3), (40, .iload_n 3, 1), (41, .isub, 1), (42, .iload 4, 2), (44, .iadd, 1), (45, .ldc 107, 2), (47, .iand, 1), (48, .putfield 113, 3), (51, .aload_n 0, 1), (52, .aload_n 0, 1), (53, .getfield 116, 3), (56, .aload_n 0, 1), (57, .getfield 40, 3), (60, .iload_n 3, 1), (61, .imul, 1), (62, .isub, 1), (63, .aload_n 0, 1), (64, .getfield 113, 3), (67, .iadd, 1), (68, .ldc 107, 2), (70, .iand, 1), (71, .putfield 116, 3), (74, .return_, 1)], 5, 0, 0)
def cm29 : Me := ("sameBytes", "(III)Z", 3, 2, [(0, .iload_n 1, 1), (1, .aload_n 0, 1), (2, .getfield 40, 3), (5, .imul, 1), (6, .istore 4, 2), (8, .iconst 0, 1), (9, .istore 5, 2), (11, .iload 5, 2), (13, .iload_n 3, 1), (14, .if_icmp .ge 78, 3), (17, .iload 5, 2), (19, .bipush 16, 2), (21, .if_icmp .ge 71, 3), (24, .iload 4, 2), (26, .iload 5, 2), (28, .iadd, 1), (29, .istore 6, 2), (31, .iload_n 2, 1), (32, .iload 5, 2), (34, .iadd, 1), (35, .istore 7, 2), (37, .iload 6, 2), (39, .ifCond .lt 26, 3), (42, .iload 6, 2), (44, .aload_n 0, 1), (45, .getfield 44, 3), (48, .if_icmp .ge 17, 3), (51, .iload 7, 2), (53, .ifCond .lt 12, 3), (56, .iload 7, 2), (58, .aload_n 0, 1), (59, .getfield 47, 3), (62, .if_icmp .lt 5, 3), (65, .iconst 0, 1), (66, .ireturn, 1), (67, .aload_n 0, 1), (68, .getfield 7, 3), (71, .iload 6, 2), (73, .iaload, 1), (74, .aload_n 0, 1), (75, .getfield 13, 3), (78, .iload 7, 2), (80, .iaload, 1), (81, .if_icmp .eq 5, 3), (84, .iconst 0, 1), (85, .ireturn, 1), (86, .iinc 5 1, 3), (89, .goto (-78), 3), (92, .iconst 1, 1), (93, .ireturn, 1)], 8, 0, 0)
def cm30 : Me := ("findFullMatch", "(I)I", 1, 1, [(0, .aload_n 0, 1), (1, .getfield 113, 3), (4, .aload_n 0, 1), (5, .getfield 116, 3), (8, .ldc 109, 2), (10, .imul, 1), (11, .iadd, 1), (12, .istore_n 2, 1), (13, .aload_n 0, 1), (14, .getfield 22, 3), (17, .aload_n 0, 1), (18, .aload_n 0, 1), (19, .getfield 113, 3), (22, .aload_n 0, 1), (23, .getfield 116, 3), (26, .invokevirtual 110, 3), (29, .iaload, 1), (30, .istore_n 3, 1), (31, .iconst 0, 1), (32, .istore 4, 2), (34, .iconst 0, 1), (35, .istore 5, 2), (37, .iconst 0, 1), (38, .istore 6, 2), (40, .iload 6, 2), (42, .bipush 64, 2), (44, .if_icmp .ge 81, 3), (47, .iload_n 3, 1), (48, .ifCond .lt 77, 3), (51, .iload_n 3, 1), (52, .bipush 64, 2), (54, .if_icmp .ge 71, 3), (57, .aload_n 0, 1), (58, .getfield 16, 3), (61, .iload_n 3, 1), (62, .iaload, 1), (63, .iload_n 2, 1), (64, .if_icmp .ne 48, 3), (67, .iload 4, 2), (69, .ifCond .ne 17, 3), (72, .aload_n 0, 1), (73, .iload_n 1, 1), (74, .aload_n 0, 1), (75, .getfield 40, 3), (78, .invokevirtual 119, 3), (81, .istore 5, 2), (83, .iconst 1, 1), (84, .istore 4, 2), (86, .aload_n 0, 1), (87, .getfield 19, 3), (90, .iload_n 3, 1), (91, .iaload, 1), (92, .iload 5, 2), (94, .if_icmp .ne 18, 3), (97, .aload_n 0, 1), (98, .iload_n 3, 1), (99, .iload_n 1, 1), (100, .aload_n 0, 1), (101, .getfield 40, 3), (104, .invokevirtual 122, 3), (107, .ifCond .eq 5, 3), (110, .iload_n 3, 1), (111, .ireturn, 1), (112, .aload_n 0, 1), (113, .getfield 25, 3), (116, .iload_n 3, 1), (117, .iaload, 1), (118, .istore_n 3, 1), (119, .iinc 6 1, 3), (122, .goto (-82), 3), (125, .iconst (-1), 1), (126, .ireturn, 1)], 7, 1, 19)
def cm31 : Me := ("findTailMatch", "(II)I", 2, 1, [(0, .aload_n 0, 1), (1, .getfield 54, 3), (4, .ifCond .gt 5, 3), (7, .iconst (-1), 1), (8, .ireturn, 1), (9, .aload_n 0, 1), (10, .getfield 54, 3), (13, .iconst 1, 1), (14, .isub, 1), (15, .istore_n 3, 1), (16, .aload_n 0, 1), (17, .iload_n 3, 1), (18, .invokevirtual 102, 3), (21, .iload_n 2, 1), (22, .if_icmp .eq 5, 3), (25, .iconst (-1), 1), (26, .ireturn, 1), (27, .aload_n 0, 1), (28, .iload_n 3, 1), (29, .iload_n 1, 1), (30, .iload_n 2, 1), (31, .invokevirtual 122, 3), (34, .ifCond .eq 5, 3), (37, .iload_n 3, 1), (38, .ireturn, 1), (39, .iconst (-1), 1), (40, .ireturn, 1)], 4, 1, 19)
def cm32 : Me := ("emitOp", "(II)V", 2, 0, [(0, .aload_n 0, 1), (1, .getfield 76, 3), (4, .sipush 128, 3), (7, .if_icmp .ge 33, 3), (10, .aload_n 0, 1), (11, .getfield 28, 3), (14, .aload_n 0, 1), (15, .getfield 76, 3), (18, .iload_n 1, 1), (19, .iastore, 1), (20, .aload_n 0, 1), (21, .getfield 31, 3), (24, .aload_n 0, 1), (25, .getfield 76, 3), (28, .iload_n 2, 1), (29, .iastore, 1), (30, .aload_n 0, 1), (31, .dup, 1), (32, .getfield 76, 3), (35, .iconst 1, 1), (36, .iadd, 1), (37, .putfield 76, 3), (40, .return_, 1)], 3, 0, 0)
def cm33 : Me := ("keepLiteral", "(I)V", 1, 0, [(0, .aload_n 0, 1), (1, .getfield 99, 3), (4, .sipush 128, 3), (7, .if_icmp .ge 23, 3), (10, .aload_n 0, 1), (11, .getfield 34, 3), (14, .aload_n 0, 1), (15, .getfield 99, 3), (18, .iload_n 1, 1), (19, .iastore, 1), (20, .aload_n 0, 1), (21, .dup, 1), (22, .getfield 99, 3), (25, .iconst 1, 1), (26, .iadd, 1), (27, .putfield 99, 3), (30, .return_, 1)], 2, 0, 0)
def cm34 : Me := ("scanNew", "()V", 0, 0, [(0, .iconst 0, 1), (1, .istore_n 1, 1), (2, .iconst 0, 1), (3, .istore_n 2, 1), (4, .iconst 0, 1), (5, .istore_n 3, 1), (6, .iconst 0, 1), (7, .istore 4, 2), (9, .iload 4, 2), (11, .sipush 256, 3), (14, .if_icmp .ge 165, 3), (17, .iload_n 1, 1), (18, .aload_n 0, 1), (19, .getfield 47, 3), (22, .if_icmp .ge 157, 3), (25, .aload_n 0, 1), (26, .getfield 47, 3), (29, .iload_n 1, 1), (30, .isub, 1), (31, .istore 5, 2), (33, .iload 5, 2), (35, .aload_n 0, 1), (36, .getfield 40, 3), (39, .if_icmp .ge 8, 3), (42, .iload 5, 2), (44, .goto 7, 3), (47, .aload_n 0, 1), (48, .getfield 40, 3), (51, .istore 6, 2), (53, .iload 5, 2), (55, .aload_n 0, 1), (56, .getfield 40, 3), (59, .if_icmp .lt 28, 3), (62, .iload_n 3, 1), (63, .ifCond .ne 14, 3), (66, .aload_n 0, 1), (67, .iload_n 1, 1), (68, .aload_n 0, 1), (69, .getfield 40, 3), (72, .invokevirtual 126, 3), (75, .iconst 1, 1), (76, .istore_n 3, 1), (77, .aload_n 0, 1), (78, .iload_n 1, 1), (79, .invokevirtual 130, 3), (82, .istore 7, 2), (84, .goto 12, 3), (87, .aload_n 0, 1), (88, .iload_n 1, 1), (89, .iload 5, 2), (91, .invokevirtual 133, 3), (94, .istore 7, 2), (96, .iload 7, 2), (98, .ifCond .lt 32, 3), (101, .iload_n 2, 1), (102, .ifCond .le 11, 3), (105, .aload_n 0, 1), (106, .iconst 2, 1), (107, .iload_n 2, 1), (108, .invokevirtual 136, 3), (111, .iconst 0, 1), (112, .istore_n 2, 1), (113, .aload_n 0, 1), (114, .iconst 1, 1), (115, .iload 7, 2), (117, .invokevirtual 136, 3), (120, .iload_n 1, 1), (121, .iload 6, 2), (123, .iadd, 1), (124, .istore_n 1, 1), (125, .iconst 0, 1), (126, .istore_n 3, 1), (127, .goto 46, 3), (130, .aload_n 0, 1), (131, .aload_n 0, 1), (132, .getfield 13, 3), (135, .iload_n 1, 1), (136, .iaload, 1), (137, .invokevirtual 139, 3), (140, .iinc 2 1, 3), (143, .iload_n 3, 1), (144, .ifCond .eq 24, 3), (147, .iload_n 1, 1), (148, .aload_n 0, 1), (149, .getfield 40, 3), (152, .iadd, 1), (153, .aload_n 0, 1), (154, .getfield 47, 3), (157, .if_icmp .ge 11, 3), (160, .aload_n 0, 1), (161, .iload_n 1, 1), (162, .invokevirtual 142, 3), (165, .goto 5, 3), (168, .iconst 0, 1), (169, .istore_n 3, 1), (170, .iinc 1 1, 3), (173, .iinc 4 1, 3), (176, .goto (-167), 3), (179, .iload_n 2, 1), (180, .ifCond .le 9, 3), (183, .aload_n 0, 1), (184, .iconst 2, 1), (185, .iload_n 2, 1), (186, .invokevirtual 136, 3), (189, .return_, 1)], 8, 2, 37)
def cm35 : Me := ("copyBlockOut", "(I)V", 1, 0, [(0, .iload_n 1, 1), (1, .ifCond .lt 11, 3), (4, .iload_n 1, 1), (5, .aload_n 0, 1), (6, .getfield 54, 3), (9, .if_icmp .lt 4, 3), (12, .return_, 1), (13, .iload_n 1, 1), (14, .aload_n 0, 1), (15, .getfield 40, 3), (18, .imul, 1), (19, .istore_n 2, 1), (20, .aload_n 0, 1), (21, .iload_n 1, 1), (22, .invokevirtual 102, 3), (25, .istore_n 3, 1), (26, .iconst 0, 1), (27, .istore 4, 2), (29, .iload 4, 2), (31, .iload_n 3, 1), (32, .if_icmp .ge 72, 3), (35, .iload 4, 2), (37, .bipush 16, 2), (39, .if_icmp .ge 65, 3), (42, .iload_n 2, 1), (43, .iload 4, 2), (45, .iadd, 1), (46, .istore 5, 2), (48, .iload 5, 2), (50, .ifCond .lt 48, 3), (53, .iload 5, 2), (55, .aload_n 0, 1), (56, .getfield 44, 3), (59, .if_icmp .ge 39, 3), (62, .aload_n 0, 1), (63, .getfield 79, 3), (66, .sipush 128, 3), (69, .if_icmp .ge 29, 3), (72, .aload_n 0, 1), (73, .getfield 37, 3), (76, .aload_n 0, 1), (77, .getfield 79, 3), (80, .aload_n 0, 1), (81, .getfield 7, 3), (84, .iload 5, 2), (86, .iaload, 1), (87, .iastore, 1), (88, .aload_n 0, 1), (89, .dup, 1), (90, .getfield 79, 3), (93, .iconst 1, 1), (94, .iadd, 1), (95, .putfield 79, 3), (98, .iinc 4 1, 3), (101, .goto (-72), 3), (104, .return_, 1)], 6, 1, 15)
def cm36 : Me := ("copyLiteralsOut", "(II)I", 2, 1, [(0, .iload_n 1, 1), (1, .istore_n 3, 1), (2, .iconst 0, 1), (3, .istore 4, 2), (5, .iload 4, 2), (7, .iload_n 2, 1), (8, .if_icmp .ge 67, 3), (11, .iload 4, 2), (13, .sipush 128, 3), (16, .if_icmp .ge 59, 3), (19, .iload_n 3, 1), (20, .ifCond .lt 46, 3), (23, .iload_n 3, 1), (24, .aload_n 0, 1), (25, .getfield 99, 3), (28, .if_icmp .ge 38, 3), (31, .aload_n 0, 1), (32, .getfield 79, 3), (35, .sipush 128, 3), (38, .if_icmp .ge 28, 3), (41, .aload_n 0, 1), (42, .getfield 37, 3), (45, .aload_n 0, 1), (46, .getfield 79, 3), (49, .aload_n 0, 1), (50, .getfield 34, 3), (53, .iload_n 3, 1), (54, .iaload, 1), (55, .iastore, 1), (56, .aload_n 0, 1), (57, .dup, 1), (58, .getfield 79, 3), (61, .iconst 1, 1), (62, .iadd, 1), (63, .putfield 79, 3), (66, .iinc 3 1, 3), (69, .iinc 4 1, 3), (72, .goto (-67), 3), (75, .iload_n 3, 1), (76, .ireturn, 1)], 5, 0, 0)
def PP : Cl := ("RsyncDelta", [(9, ("blockSize", "I", 0, false)), (10, ("oldBytes", "[I", 3, false)), (11, ("oldLen", "I", 0, false)), (12, ("newBytes", "[I", 4, false)), (13, ("newLen", "I", 0, false)), (14, ("signed", "Z", 1, false)), (15, ("blockCount", "I", 0, false)), (16, ("weakSums", "[I", 5, false)), (17, ("strongSums", "[I", 6, false)), (18, ("heads", "[I", 7, false)), (19, ("nextInChain", "[I", 8, false)), (20, ("deltaPresent", "Z", 1, false)), (21, ("opKinds", "[I", 9, false)), (22, ("opValues", "[I", 10, false)), (23, ("opCount", "I", 0, false)), (24, ("litBytes", "[I", 11, false)), (25, ("litLen", "I", 0, false)), (26, ("outPresent", "Z", 1, false)), (27, ("outBytes", "[I", 12, false)), (28, ("outLen", "I", 0, false)), (29, ("winA", "I", 0, false)), (30, ("winS", "I", 0, false))], [(0, 128), (0, 128), (0, 64), (0, 64), (0, 64), (0, 64), (0, 128), (0, 128), (0, 128), (0, 128)], [(7, 10), (13, 12), (16, 16), (19, 17), (22, 18), (25, 19), (28, 21), (31, 22), (34, 24), (37, 27), (40, 9), (44, 11), (47, 13), (50, 14), (54, 15), (73, 20), (76, 23), (79, 28), (89, 26), (99, 25), (113, 29), (116, 30)], [(57, 18), (60, 19), (63, 23), (67, 25), (70, 34), (82, 35), (85, 36), (96, 21), (102, 22), (110, 24), (119, 27), (122, 29), (126, 26), (130, 30), (133, 31), (136, 32), (139, 33), (142, 28)], [(106, .int (-2128831035 : Int32)), (107, .int (65535 : Int32)), (108, .int (16777619 : Int32)), (109, .int (65536 : Int32))], [(0, cm0), (3, cm3), (4, cm4), (5, cm5), (6, cm6), (7, cm7), (14, cm14), (15, cm15), (17, cm17), (18, cm18), (19, cm19), (21, cm21), (22, cm22), (23, cm23), (24, cm24), (25, cm25), (26, cm26), (27, cm27), (28, cm28), (29, cm29), (30, cm30), (31, cm31), (32, cm32), (33, cm33), (34, cm34), (35, cm35), (36, cm36)], 1)
def lm0 : Me := ("law", "(IIIII)Z", 5, 2, [(0, .new 7, 3), (3, .dup, 1), (4, .iconst 2, 1), (5, .invokespecial 9, 3), (8, .astore 5, 2), (10, .iload_n 0, 1), (11, .sipush 255, 3), (14, .iand, 1), (15, .istore 6, 2), (17, .iload_n 1, 1), (18, .sipush 255, 3), (21, .iand, 1), (22, .istore 7, 2), (24, .iload_n 2, 1), (25, .sipush 255, 3), (28, .iand, 1), (29, .istore 8, 2), (31, .iload_n 3, 1), (32, .sipush 255, 3), (35, .iand, 1), (36, .istore 9, 2), (38, .iload 4, 2), (40, .sipush 255, 3), (43, .iand, 1), (44, .istore 10, 2), (46, .aload 5, 2), (48, .iload_n 0, 1), (49, .invokevirtual 12, 3), (52, .istore 11, 2), (54, .aload 5, 2), (56, .iload_n 1, 1), (57, .invokevirtual 12, 3), (60, .istore 12, 2), (62, .aload 5, 2), (64, .iload_n 2, 1), (65, .invokevirtual 12, 3), (68, .istore 13, 2), (70, .aload 5, 2), (72, .iload_n 3, 1), (73, .invokevirtual 12, 3), (76, .istore 14, 2), (78, .aload 5, 2), (80, .invokevirtual 16, 3), (83, .istore 15, 2), (85, .aload 5, 2), (87, .iload_n 2, 1), (88, .invokevirtual 20, 3), (91, .istore 16, 2), (93, .aload 5, 2), (95, .iload_n 3, 1), (96, .invokevirtual 20, 3), (99, .istore 17, 2), (101, .aload 5, 2), (103, .iload 4, 2), (105, .invokevirtual 20, 3), (108, .istore 18, 2), (110, .aload 5, 2), (112, .iload_n 0, 1), (113, .invokevirtual 20, 3), (116, .istore 19, 2), (118, .aload 5, 2), (120, .iload_n 1, 1), (121, .invokevirtual 20, 3), (124, .istore 20, 2), (126, .aload 5, 2), (128, .invokevirtual 23, 3), (131, .istore 21, 2), (133, .iload 6, 2), (135, .iload 8, 2), (137, .if_icmp .ne 14, 3), (140, .iload 7, 2), (142, .iload 9, 2), (144, .if_icmp .ne 7, 3), (147, .iconst 0, 1), (148, .goto 4, 3), (151, .iconst 1, 1), (152, .istore 22, 2), (154, .iload 10, 2), (156, .iload 6, 2), (158, .if_icmp .ne 14, 3), (161, .iload 6, 2), (163, .iload 7, 2), (165, .if_icmp .ne 7, 3), (168, .iconst 0, 1), (169, .goto 22, 3), (172, .iload 10, 2), (174, .iload 8, 2), (176, .if_icmp .ne 14, 3), (179, .iload 6, 2), (181, .iload 9, 2), (183, .if_icmp .ne 7, 3), (186, .iconst 1, 1), (187, .goto 4, 3), (190, .iconst (-1), 1), (191, .istore 23, 2), (193, .iload 23, 2), (195, .ifCond .lt 7, 3), (198, .iconst 1, 1), (199, .goto 4, 3), (202, .iconst 2, 1), (203, .istore 24, 2), (205, .iload 23, 2), (207, .ifCond .lt 8, 3), (210, .iload 23, 2), (212, .goto 4, 3), (215, .iconst 1, 1), (216, .istore 25, 2), (218, .iload 23, 2), (220, .ifCond .lt 7, 3), (223, .iconst 2, 1), (224, .goto 4, 3), (227, .iconst 1, 1), (228, .istore 26, 2), (230, .iload 23, 2), (232, .ifCond .lt 7, 3), (235, .iconst 1, 1), (236, .goto 4, 3), (239, .iconst 0, 1), (240, .istore 27, 2), (242, .aload 5, 2), (244, .iconst 0, 1), (245, .invokevirtual 26, 3), (248, .istore 28, 2), (250, .aload 5, 2), (252, .iconst 0, 1), (253, .invokevirtual 30, 3), (256, .istore 29, 2), (258, .aload 5, 2), (260, .iconst 1, 1), (261, .invokevirtual 26, 3), (264, .istore 30, 2), (266, .aload 5, 2), (268, .iconst 1, 1), (269, .invokevirtual 30, 3), (272, .istore 31, 2), (274, .aload 5, 2), (276, .iconst 2, 1), (277, .invokevirtual 26, 3), (280, .istore 32, 2), (282, .aload 5, 2), (284, .iconst 2, 1), (285, .invokevirtual 30, 3), (288, .istore 33, 2), (290, .aload 5, 2), (292, .invokevirtual 33, 3), (295, .istore 34, 2), (297, .aload 5, 2), (299, .iconst 0, 1), (300, .invokevirtual 36, 3), (303, .istore 35, 2), (305, .aload 5, 2), (307, .iconst 1, 1), (308, .invokevirtual 36, 3), (311, .istore 36, 2), (313, .aload 5, 2), (315, .iconst 2, 1), (316, .invokevirtual 36, 3), (319, .istore 37, 2), (321, .aload 5, 2), (323, .iconst 3, 1), (324, .invokevirtual 36, 3), (327, .istore 38, 2), (329, .aload 5, 2), (331, .iconst 4, 1), (332, .invokevirtual 36, 3), (335, .istore 39, 2), (337, .iload 11, 2), (339, .ifCond .eq 47, 3), (342, .iload 12, 2), (344, .ifCond .eq 42, 3), (347, .iload 13, 2), (349, .ifCond .eq 37, 3), (352, .iload 14, 2), (354, .ifCond .eq 32, 3), (357, .iload 16, 2), (359, .ifCond .eq 27, 3), (362, .iload 17, 2), (364, .ifCond .eq 22, 3), (367, .iload 18, 2), (369, .ifCond .eq 17, 3), (372, .iload 19, 2), (374, .ifCond .eq 12, 3), (377, .iload 20, 2), (379, .ifCond .eq 7, 3), (382, .iconst 1, 1), (383, .goto 4, 3), (386, .iconst 0, 1), (387, .istore 40, 2), (389, .iload 21, 2), (391, .iconst 3, 1), (392, .if_icmp .ne 48, 3), (395, .iload 28, 2), (397, .iconst 1, 1), (398, .if_icmp .ne 42, 3), (401, .iload 29, 2), (403, .iload 22, 2), (405, .if_icmp .ne 35, 3), (408, .iload 30, 2), (410, .iload 24, 2), (412, .if_icmp .ne 28, 3), (415, .iload 31, 2), (417, .iload 25, 2), (419, .if_icmp .ne 21, 3), (422, .iload 32, 2), (424, .iload 26, 2), (426, .if_icmp .ne 14, 3), (429, .iload 33, 2), (431, .iload 27, 2), (433, .if_icmp .ne 7, 3), (436, .iconst 1, 1), (437, .goto 4, 3), (440, .iconst 0, 1), (441, .istore 41, 2), (443, .iload 34, 2), (445, .iconst 5, 1), (446, .if_icmp .ne 42, 3), (449, .iload 35, 2), (451, .iload 8, 2), (453, .if_icmp .ne 35, 3), (456, .iload 36, 2), (458, .iload 9, 2), (460, .if_icmp .ne 28, 3), (463, .iload 37, 2), (465, .iload 10, 2), (467, .if_icmp .ne 21, 3), (470, .iload 38, 2), (472, .iload 6, 2), (474, .if_icmp .ne 14, 3), (477, .iload 39, 2), (479, .iload 7, 2), (481, .if_icmp .ne 7, 3), (484, .iconst 1, 1), (485, .goto 4, 3), (488, .iconst 0, 1), (489, .istore 42, 2), (491, .iload 40, 2), (493, .ifCond .eq 23, 3), (496, .iload 15, 2), (498, .iconst 2, 1), (499, .if_icmp .ne 17, 3), (502, .iload 41, 2), (504, .ifCond .eq 12, 3), (507, .iload 42, 2), (509, .ifCond .eq 7, 3), (512, .iconst 1, 1), (513, .goto 4, 3), (516, .iconst 0, 1), (517, .ireturn, 1)], 43, 7, 176)
def QQ : Lw := ("RsyncDeltaL3", [], [(12, 3), (16, 5), (20, 4), (23, 6), (26, 14), (30, 15), (33, 7), (36, 17)], 9, 7, 22, [], [(0, lm0)], 32, 2176)
set_option maxRecDepth 100000
set_option maxHeartbeats 1000000
theorem dk_c0 : chk prog_1_method_1_code cm0.cd = true := by decide +kernel
theorem dk_c18 : chk prog_1_method_18_code cm18.cd = true := by decide +kernel
theorem dk_c19 : chk prog_1_method_19_code cm19.cd = true := by decide +kernel
theorem dk_c3 : chk prog_1_method_3_code cm3.cd = true := by decide +kernel
theorem dk_c5 : chk prog_1_method_5_code cm5.cd = true := by decide +kernel
theorem dk_c23 : chk prog_1_method_23_code cm23.cd = true := by decide +kernel
theorem dk_c22 : chk prog_1_method_22_code cm22.cd = true := by decide +kernel
theorem dk_c25 : chk prog_1_method_25_code cm25.cd = true := by decide +kernel
theorem dk_c24 : chk prog_1_method_24_code cm24.cd = true := by decide +kernel
theorem dk_c4 : chk prog_1_method_4_code cm4.cd = true := by decide +kernel
theorem dk_c6 : chk prog_1_method_6_code cm6.cd = true := by decide +kernel
theorem dk_c34 : chk prog_1_method_34_code cm34.cd = true := by decide +kernel
theorem dk_c26 : chk prog_1_method_26_code cm26.cd = true := by decide +kernel
theorem dk_c30 : chk prog_1_method_30_code cm30.cd = true := by decide +kernel
theorem dk_c27 : chk prog_1_method_27_code cm27.cd = true := by decide +kernel
theorem dk_c29 : chk prog_1_method_29_code cm29.cd = true := by decide +kernel
theorem dk_c32 : chk prog_1_method_32_code cm32.cd = true := by decide +kernel
theorem dk_c33 : chk prog_1_method_33_code cm33.cd = true := by decide +kernel
theorem dk_c28 : chk prog_1_method_28_code cm28.cd = true := by decide +kernel
theorem dk_c14 : chk prog_1_method_14_code cm14.cd = true := by decide +kernel
theorem dk_c21 : chk prog_1_method_21_code cm21.cd = true := by decide +kernel
theorem dk_c15 : chk prog_1_method_15_code cm15.cd = true := by decide +kernel
theorem dk_c7 : chk prog_1_method_7_code cm7.cd = true := by decide +kernel
theorem dk_c35 : chk prog_1_method_35_code cm35.cd = true := by decide +kernel
theorem dk_c36 : chk prog_1_method_36_code cm36.cd = true := by decide +kernel
theorem dk_c17 : chk prog_1_method_17_code cm17.cd = true := by decide +kernel
theorem dk_c31 : chk prog_1_method_31_code cm31.cd = true := by decide +kernel
theorem dk_l0 : chk code lm0.cd = true := by decide +kernel
theorem pk_c0 : parseMethodDescriptor "(I)V" = some ⟨[.int], none⟩ := by decide +kernel
theorem pk_c18 : parseMethodDescriptor "()V" = some ⟨[], none⟩ := by decide +kernel
theorem pk_c19 : parseMethodDescriptor "()V" = some ⟨[], none⟩ := by decide +kernel
theorem pk_c3 : parseMethodDescriptor "(I)Z" = some ⟨[.int], some .boolean⟩ := by decide +kernel
theorem pk_c5 : parseMethodDescriptor "()I" = some ⟨[], some .int⟩ := by decide +kernel
theorem pk_c23 : parseMethodDescriptor "(I)V" = some ⟨[.int], none⟩ := by decide +kernel
theorem pk_c22 : parseMethodDescriptor "(I)I" = some ⟨[.int], some .int⟩ := by decide +kernel
theorem pk_c25 : parseMethodDescriptor "()V" = some ⟨[], none⟩ := by decide +kernel
theorem pk_c24 : parseMethodDescriptor "(II)I" = some ⟨[.int, .int], some .int⟩ := by decide +kernel
theorem pk_c4 : parseMethodDescriptor "(I)Z" = some ⟨[.int], some .boolean⟩ := by decide +kernel
theorem pk_c6 : parseMethodDescriptor "()I" = some ⟨[], some .int⟩ := by decide +kernel
theorem pk_c34 : parseMethodDescriptor "()V" = some ⟨[], none⟩ := by decide +kernel
theorem pk_c26 : parseMethodDescriptor "(II)V" = some ⟨[.int, .int], none⟩ := by decide +kernel
theorem pk_c30 : parseMethodDescriptor "(I)I" = some ⟨[.int], some .int⟩ := by decide +kernel
theorem pk_c27 : parseMethodDescriptor "(II)I" = some ⟨[.int, .int], some .int⟩ := by decide +kernel
theorem pk_c29 : parseMethodDescriptor "(III)Z" = some ⟨[.int, .int, .int], some .boolean⟩ := by decide +kernel
theorem pk_c32 : parseMethodDescriptor "(II)V" = some ⟨[.int, .int], none⟩ := by decide +kernel
theorem pk_c33 : parseMethodDescriptor "(I)V" = some ⟨[.int], none⟩ := by decide +kernel
theorem pk_c28 : parseMethodDescriptor "(I)V" = some ⟨[.int], none⟩ := by decide +kernel
theorem pk_c14 : parseMethodDescriptor "(I)I" = some ⟨[.int], some .int⟩ := by decide +kernel
theorem pk_c21 : parseMethodDescriptor "(I)Z" = some ⟨[.int], some .boolean⟩ := by decide +kernel
theorem pk_c15 : parseMethodDescriptor "(I)I" = some ⟨[.int], some .int⟩ := by decide +kernel
theorem pk_c7 : parseMethodDescriptor "()I" = some ⟨[], some .int⟩ := by decide +kernel
theorem pk_c35 : parseMethodDescriptor "(I)V" = some ⟨[.int], none⟩ := by decide +kernel
theorem pk_c36 : parseMethodDescriptor "(II)I" = some ⟨[.int, .int], some .int⟩ := by decide +kernel
theorem pk_c17 : parseMethodDescriptor "(I)I" = some ⟨[.int], some .int⟩ := by decide +kernel
theorem pk_c31 : parseMethodDescriptor "(II)I" = some ⟨[.int, .int], some .int⟩ := by decide +kernel
theorem lkC (Z : State) (a0 : Array Value) (hw : ∀ d ∈ tables_1, d.before a0 Z = true) : LinkC PP Z a0 :=
  ⟨⟨⟨22, (hw _ (List.mem_of_getElem? (i := 1) rfl))⟩, (hw _ (List.mem_of_getElem? (i := 2) rfl))⟩,
   asc_all (⟨by intro z h; obtain rfl : ("oldBytes", "[I", 3, false) = z := Option.some.inj h; exact (hw _ (List.mem_of_getElem? (i := 10) rfl)), by intro z h; obtain rfl : ("newBytes", "[I", 4, false) = z := Option.some.inj h; exact (hw _ (List.mem_of_getElem? (i := 12) rfl)), by intro z h; obtain rfl : ("weakSums", "[I", 5, false) = z := Option.some.inj h; exact (hw _ (List.mem_of_getElem? (i := 14) rfl)), by intro z h; obtain rfl : ("strongSums", "[I", 6, false) = z := Option.some.inj h; exact (hw _ (List.mem_of_getElem? (i := 16) rfl)), by intro z h; obtain rfl : ("heads", "[I", 7, false) = z := Option.some.inj h; exact (hw _ (List.mem_of_getElem? (i := 18) rfl)), by intro z h; obtain rfl : ("nextInChain", "[I", 8, false) = z := Option.some.inj h; exact (hw _ (List.mem_of_getElem? (i := 20) rfl)), by intro z h; obtain rfl : ("opKinds", "[I", 9, false) = z := Option.some.inj h; exact (hw _ (List.mem_of_getElem? (i := 22) rfl)), by intro z h; obtain rfl : ("opValues", "[I", 10, false) = z := Option.some.inj h; exact (hw _ (List.mem_of_getElem? (i := 24) rfl)), by intro z h; obtain rfl : ("litBytes", "[I", 11, false) = z := Option.some.inj h; exact (hw _ (List.mem_of_getElem? (i := 26) rfl)), by intro z h; obtain rfl : ("outBytes", "[I", 12, false) = z := Option.some.inj h; exact (hw _ (List.mem_of_getElem? (i := 28) rfl)), by intro z h; obtain rfl : ("blockSize", "I", 0, false) = z := Option.some.inj h; exact (hw _ (List.mem_of_getElem? (i := 30) rfl)), by intro z h; obtain rfl : ("oldLen", "I", 0, false) = z := Option.some.inj h; exact (hw _ (List.mem_of_getElem? (i := 32) rfl)), by intro z h; obtain rfl : ("newLen", "I", 0, false) = z := Option.some.inj h; exact (hw _ (List.mem_of_getElem? (i := 34) rfl)), by intro z h; obtain rfl : ("signed", "Z", 1, false) = z := Option.some.inj h; exact (hw _ (List.mem_of_getElem? (i := 36) rfl)), by intro z h; obtain rfl : ("blockCount", "I", 0, false) = z := Option.some.inj h; exact (hw _ (List.mem_of_getElem? (i := 38) rfl)), by intro z h; obtain rfl : ("deltaPresent", "Z", 1, false) = z := Option.some.inj h; exact (hw _ (List.mem_of_getElem? (i := 44) rfl)), by intro z h; obtain rfl : ("opCount", "I", 0, false) = z := Option.some.inj h; exact (hw _ (List.mem_of_getElem? (i := 46) rfl)), by intro z h; obtain rfl : ("outLen", "I", 0, false) = z := Option.some.inj h; exact (hw _ (List.mem_of_getElem? (i := 56) rfl)), by intro z h; obtain rfl : ("outPresent", "Z", 1, false) = z := Option.some.inj h; exact (hw _ (List.mem_of_getElem? (i := 54) rfl)), by intro z h; obtain rfl : ("litLen", "I", 0, false) = z := Option.some.inj h; exact (hw _ (List.mem_of_getElem? (i := 48) rfl)), by intro z h; obtain rfl : ("winA", "I", 0, false) = z := Option.some.inj h; exact (hw _ (List.mem_of_getElem? (i := 106) rfl)), by intro z h; obtain rfl : ("winS", "I", 0, false) = z := Option.some.inj h; exact (hw _ (List.mem_of_getElem? (i := 108) rfl)), trivial⟩),
   asc_all (⟨(hw _ (List.mem_of_getElem? (i := 31) rfl)), (hw _ (List.mem_of_getElem? (i := 11) rfl)), (hw _ (List.mem_of_getElem? (i := 33) rfl)), (hw _ (List.mem_of_getElem? (i := 13) rfl)), (hw _ (List.mem_of_getElem? (i := 35) rfl)), (hw _ (List.mem_of_getElem? (i := 37) rfl)), (hw _ (List.mem_of_getElem? (i := 39) rfl)), (hw _ (List.mem_of_getElem? (i := 15) rfl)), (hw _ (List.mem_of_getElem? (i := 17) rfl)), (hw _ (List.mem_of_getElem? (i := 19) rfl)), (hw _ (List.mem_of_getElem? (i := 21) rfl)), (hw _ (List.mem_of_getElem? (i := 45) rfl)), (hw _ (List.mem_of_getElem? (i := 23) rfl)), (hw _ (List.mem_of_getElem? (i := 25) rfl)), (hw _ (List.mem_of_getElem? (i := 47) rfl)), (hw _ (List.mem_of_getElem? (i := 27) rfl)), (hw _ (List.mem_of_getElem? (i := 49) rfl)), (hw _ (List.mem_of_getElem? (i := 55) rfl)), (hw _ (List.mem_of_getElem? (i := 29) rfl)), (hw _ (List.mem_of_getElem? (i := 57) rfl)), (hw _ (List.mem_of_getElem? (i := 107) rfl)), (hw _ (List.mem_of_getElem? (i := 109) rfl)), trivial⟩),
   asc_all (⟨(by decide +kernel), (by decide +kernel), (by decide +kernel), (by decide +kernel), (by decide +kernel), (by decide +kernel), (by decide +kernel), (by decide +kernel), (by decide +kernel), (by decide +kernel), (by decide +kernel), (by decide +kernel), (by decide +kernel), (by decide +kernel), (by decide +kernel), (by decide +kernel), (by decide +kernel), (by decide +kernel), (by decide +kernel), (by decide +kernel), (by decide +kernel), (by decide +kernel), trivial⟩),
   dst_ok (by decide +kernel),
   lst_all (⟨⟨by decide, (hw _ (List.mem_of_getElem? (i := 9) rfl))⟩, ⟨by decide, (hw _ (List.mem_of_getElem? (i := 9) rfl))⟩, ⟨by decide, (hw _ (List.mem_of_getElem? (i := 9) rfl))⟩, ⟨by decide, (hw _ (List.mem_of_getElem? (i := 9) rfl))⟩, ⟨by decide, (hw _ (List.mem_of_getElem? (i := 9) rfl))⟩, ⟨by decide, (hw _ (List.mem_of_getElem? (i := 9) rfl))⟩, ⟨by decide, (hw _ (List.mem_of_getElem? (i := 9) rfl))⟩, ⟨by decide, (hw _ (List.mem_of_getElem? (i := 9) rfl))⟩, ⟨by decide, (hw _ (List.mem_of_getElem? (i := 9) rfl))⟩, ⟨by decide, (hw _ (List.mem_of_getElem? (i := 9) rfl))⟩, trivial⟩),
   asc_all (⟨(hw _ (List.mem_of_getElem? (i := 76) rfl)), (hw _ (List.mem_of_getElem? (i := 77) rfl)), (hw _ (List.mem_of_getElem? (i := 78) rfl)), (hw _ (List.mem_of_getElem? (i := 79) rfl)), trivial⟩),
   ⟨(hw _ (List.mem_of_getElem? (i := 6) rfl)), (hw _ (List.mem_of_getElem? (i := 7) rfl)), (hw _ (List.mem_of_getElem? (i := 8) rfl))⟩,
   asc_all (⟨⟨prog_1_method_1_code, [.int], (hw _ (List.mem_of_getElem? (i := 5) rfl)), chk_ok dk_c0, pk_c0, rfl⟩, ⟨prog_1_method_3_code, [.int], (hw _ (List.mem_of_getElem? (i := 62) rfl)), chk_ok dk_c3, pk_c3, rfl⟩, ⟨prog_1_method_4_code, [.int], (hw _ (List.mem_of_getElem? (i := 92) rfl)), chk_ok dk_c4, pk_c4, rfl⟩, ⟨prog_1_method_5_code, [], (hw _ (List.mem_of_getElem? (i := 67) rfl)), chk_ok dk_c5, pk_c5, rfl⟩, ⟨prog_1_method_6_code, [], (hw _ (List.mem_of_getElem? (i := 97) rfl)), chk_ok dk_c6, pk_c6, rfl⟩, ⟨prog_1_method_7_code, [], (hw _ (List.mem_of_getElem? (i := 152) rfl)), chk_ok dk_c7, pk_c7, rfl⟩, ⟨prog_1_method_14_code, [.int], (hw _ (List.mem_of_getElem? (i := 138) rfl)), chk_ok dk_c14, pk_c14, rfl⟩, ⟨prog_1_method_15_code, [.int], (hw _ (List.mem_of_getElem? (i := 147) rfl)), chk_ok dk_c15, pk_c15, rfl⟩, ⟨prog_1_method_17_code, [.int], (hw _ (List.mem_of_getElem? (i := 165) rfl)), chk_ok dk_c17, pk_c17, rfl⟩, ⟨prog_1_method_18_code, [], (hw _ (List.mem_of_getElem? (i := 43) rfl)), chk_ok dk_c18, pk_c18, rfl⟩, ⟨prog_1_method_19_code, [], (hw _ (List.mem_of_getElem? (i := 53) rfl)), chk_ok dk_c19, pk_c19, rfl⟩, ⟨prog_1_method_21_code, [.int], (hw _ (List.mem_of_getElem? (i := 142) rfl)), chk_ok dk_c21, pk_c21, rfl⟩, ⟨prog_1_method_22_code, [.int], (hw _ (List.mem_of_getElem? (i := 75) rfl)), chk_ok dk_c22, pk_c22, rfl⟩, ⟨prog_1_method_23_code, [.int], (hw _ (List.mem_of_getElem? (i := 71) rfl)), chk_ok dk_c23, pk_c23, rfl⟩, ⟨prog_1_method_24_code, [.int, .int], (hw _ (List.mem_of_getElem? (i := 87) rfl)), chk_ok dk_c24, pk_c24, rfl⟩, ⟨prog_1_method_25_code, [], (hw _ (List.mem_of_getElem? (i := 83) rfl)), chk_ok dk_c25, pk_c25, rfl⟩, ⟨prog_1_method_26_code, [.int, .int], (hw _ (List.mem_of_getElem? (i := 105) rfl)), chk_ok dk_c26, pk_c26, rfl⟩, ⟨prog_1_method_27_code, [.int, .int], (hw _ (List.mem_of_getElem? (i := 117) rfl)), chk_ok dk_c27, pk_c27, rfl⟩, ⟨prog_1_method_28_code, [.int], (hw _ (List.mem_of_getElem? (i := 133) rfl)), chk_ok dk_c28, pk_c28, rfl⟩, ⟨prog_1_method_29_code, [.int, .int, .int], (hw _ (List.mem_of_getElem? (i := 121) rfl)), chk_ok dk_c29, pk_c29, rfl⟩, ⟨prog_1_method_30_code, [.int], (hw _ (List.mem_of_getElem? (i := 113) rfl)), chk_ok dk_c30, pk_c30, rfl⟩, ⟨prog_1_method_31_code, [.int, .int], (hw _ (List.mem_of_getElem? (i := 169) rfl)), chk_ok dk_c31, pk_c31, rfl⟩, ⟨prog_1_method_32_code, [.int, .int], (hw _ (List.mem_of_getElem? (i := 125) rfl)), chk_ok dk_c32, pk_c32, rfl⟩, ⟨prog_1_method_33_code, [.int], (hw _ (List.mem_of_getElem? (i := 129) rfl)), chk_ok dk_c33, pk_c33, rfl⟩, ⟨prog_1_method_34_code, [], (hw _ (List.mem_of_getElem? (i := 101) rfl)), chk_ok dk_c34, pk_c34, rfl⟩, ⟨prog_1_method_35_code, [.int], (hw _ (List.mem_of_getElem? (i := 156) rfl)), chk_ok dk_c35, pk_c35, rfl⟩, ⟨prog_1_method_36_code, [.int, .int], (hw _ (List.mem_of_getElem? (i := 160) rfl)), chk_ok dk_c36, pk_c36, rfl⟩, trivial⟩),
   asc_all (⟨by intro z h; obtain rfl : cm18 = z := Option.some.inj h; exact ⟨(hw _ (List.mem_of_getElem? (i := 40) rfl)), (hw _ (List.mem_of_getElem? (i := 41) rfl)), Or.inl (hw _ (List.mem_of_getElem? (i := 42) rfl))⟩, by intro z h; obtain rfl : cm19 = z := Option.some.inj h; exact ⟨(hw _ (List.mem_of_getElem? (i := 50) rfl)), (hw _ (List.mem_of_getElem? (i := 51) rfl)), Or.inl (hw _ (List.mem_of_getElem? (i := 52) rfl))⟩, by intro z h; obtain rfl : cm23 = z := Option.some.inj h; exact ⟨(hw _ (List.mem_of_getElem? (i := 68) rfl)), (hw _ (List.mem_of_getElem? (i := 69) rfl)), Or.inl (hw _ (List.mem_of_getElem? (i := 70) rfl))⟩, by intro z h; obtain rfl : cm25 = z := Option.some.inj h; exact ⟨(hw _ (List.mem_of_getElem? (i := 80) rfl)), (hw _ (List.mem_of_getElem? (i := 81) rfl)), Or.inl (hw _ (List.mem_of_getElem? (i := 82) rfl))⟩, by intro z h; obtain rfl : cm34 = z := Option.some.inj h; exact ⟨(hw _ (List.mem_of_getElem? (i := 98) rfl)), (hw _ (List.mem_of_getElem? (i := 99) rfl)), Or.inl (hw _ (List.mem_of_getElem? (i := 100) rfl))⟩, by intro z h; obtain rfl : cm35 = z := Option.some.inj h; exact ⟨(hw _ (List.mem_of_getElem? (i := 153) rfl)), (hw _ (List.mem_of_getElem? (i := 154) rfl)), Or.inl (hw _ (List.mem_of_getElem? (i := 155) rfl))⟩, by intro z h; obtain rfl : cm36 = z := Option.some.inj h; exact ⟨(hw _ (List.mem_of_getElem? (i := 157) rfl)), (hw _ (List.mem_of_getElem? (i := 158) rfl)), Or.inl (hw _ (List.mem_of_getElem? (i := 159) rfl))⟩, by intro z h; obtain rfl : cm21 = z := Option.some.inj h; exact ⟨(hw _ (List.mem_of_getElem? (i := 139) rfl)), (hw _ (List.mem_of_getElem? (i := 140) rfl)), Or.inl (hw _ (List.mem_of_getElem? (i := 141) rfl))⟩, by intro z h; obtain rfl : cm22 = z := Option.some.inj h; exact ⟨(hw _ (List.mem_of_getElem? (i := 72) rfl)), (hw _ (List.mem_of_getElem? (i := 73) rfl)), Or.inl (hw _ (List.mem_of_getElem? (i := 74) rfl))⟩, by intro z h; obtain rfl : cm24 = z := Option.some.inj h; exact ⟨(hw _ (List.mem_of_getElem? (i := 84) rfl)), (hw _ (List.mem_of_getElem? (i := 85) rfl)), Or.inl (hw _ (List.mem_of_getElem? (i := 86) rfl))⟩, by intro z h; obtain rfl : cm27 = z := Option.some.inj h; exact ⟨(hw _ (List.mem_of_getElem? (i := 114) rfl)), (hw _ (List.mem_of_getElem? (i := 115) rfl)), Or.inl (hw _ (List.mem_of_getElem? (i := 116) rfl))⟩, by intro z h; obtain rfl : cm29 = z := Option.some.inj h; exact ⟨(hw _ (List.mem_of_getElem? (i := 118) rfl)), (hw _ (List.mem_of_getElem? (i := 119) rfl)), Or.inl (hw _ (List.mem_of_getElem? (i := 120) rfl))⟩, by intro z h; obtain rfl : cm26 = z := Option.some.inj h; exact ⟨(hw _ (List.mem_of_getElem? (i := 102) rfl)), (hw _ (List.mem_of_getElem? (i := 103) rfl)), Or.inl (hw _ (List.mem_of_getElem? (i := 104) rfl))⟩, by intro z h; obtain rfl : cm30 = z := Option.some.inj h; exact ⟨(hw _ (List.mem_of_getElem? (i := 110) rfl)), (hw _ (List.mem_of_getElem? (i := 111) rfl)), Or.inl (hw _ (List.mem_of_getElem? (i := 112) rfl))⟩, by intro z h; obtain rfl : cm31 = z := Option.some.inj h; exact ⟨(hw _ (List.mem_of_getElem? (i := 166) rfl)), (hw _ (List.mem_of_getElem? (i := 167) rfl)), Or.inl (hw _ (List.mem_of_getElem? (i := 168) rfl))⟩, by intro z h; obtain rfl : cm32 = z := Option.some.inj h; exact ⟨(hw _ (List.mem_of_getElem? (i := 122) rfl)), (hw _ (List.mem_of_getElem? (i := 123) rfl)), Or.inl (hw _ (List.mem_of_getElem? (i := 124) rfl))⟩, by intro z h; obtain rfl : cm33 = z := Option.some.inj h; exact ⟨(hw _ (List.mem_of_getElem? (i := 126) rfl)), (hw _ (List.mem_of_getElem? (i := 127) rfl)), Or.inl (hw _ (List.mem_of_getElem? (i := 128) rfl))⟩, by intro z h; obtain rfl : cm28 = z := Option.some.inj h; exact ⟨(hw _ (List.mem_of_getElem? (i := 130) rfl)), (hw _ (List.mem_of_getElem? (i := 131) rfl)), Or.inl (hw _ (List.mem_of_getElem? (i := 132) rfl))⟩, trivial⟩),
   (by first | (simp [plainName, overriddenIn]; done) | decide +kernel),
   (by decide),
   (by intro me h; obtain rfl : cm0 = me := Option.some.inj h; rfl)⟩
theorem lkL (Z : State) (a0 : Array Value) (hw : ∀ d ∈ tables_1, d.before a0 Z = true) : LinkL PP QQ Z a0 :=
  ⟨⟨(hw _ (List.mem_of_getElem? (i := 0) rfl)), (hw _ (List.mem_of_getElem? (i := 1) rfl))⟩,
   (by intro me h; obtain rfl : cm0 = me := Option.some.inj h; exact ⟨(hw _ (List.mem_of_getElem? (i := 3) rfl)), (hw _ (List.mem_of_getElem? (i := 4) rfl)), rfl⟩),
   asc_all (⟨by intro z h; obtain rfl : cm3 = z := Option.some.inj h; exact ⟨(hw _ (List.mem_of_getElem? (i := 58) rfl)), (hw _ (List.mem_of_getElem? (i := 59) rfl)), (hw _ (List.mem_of_getElem? (i := 60) rfl)), (hw _ (List.mem_of_getElem? (i := 61) rfl))⟩, by intro z h; obtain rfl : cm5 = z := Option.some.inj h; exact ⟨(hw _ (List.mem_of_getElem? (i := 63) rfl)), (hw _ (List.mem_of_getElem? (i := 64) rfl)), (hw _ (List.mem_of_getElem? (i := 65) rfl)), (hw _ (List.mem_of_getElem? (i := 66) rfl))⟩, by intro z h; obtain rfl : cm4 = z := Option.some.inj h; exact ⟨(hw _ (List.mem_of_getElem? (i := 88) rfl)), (hw _ (List.mem_of_getElem? (i := 89) rfl)), (hw _ (List.mem_of_getElem? (i := 90) rfl)), (hw _ (List.mem_of_getElem? (i := 91) rfl))⟩, by intro z h; obtain rfl : cm6 = z := Option.some.inj h; exact ⟨(hw _ (List.mem_of_getElem? (i := 93) rfl)), (hw _ (List.mem_of_getElem? (i := 94) rfl)), (hw _ (List.mem_of_getElem? (i := 95) rfl)), (hw _ (List.mem_of_getElem? (i := 96) rfl))⟩, by intro z h; obtain rfl : cm14 = z := Option.some.inj h; exact ⟨(hw _ (List.mem_of_getElem? (i := 134) rfl)), (hw _ (List.mem_of_getElem? (i := 135) rfl)), (hw _ (List.mem_of_getElem? (i := 136) rfl)), (hw _ (List.mem_of_getElem? (i := 137) rfl))⟩, by intro z h; obtain rfl : cm15 = z := Option.some.inj h; exact ⟨(hw _ (List.mem_of_getElem? (i := 143) rfl)), (hw _ (List.mem_of_getElem? (i := 144) rfl)), (hw _ (List.mem_of_getElem? (i := 145) rfl)), (hw _ (List.mem_of_getElem? (i := 146) rfl))⟩, by intro z h; obtain rfl : cm7 = z := Option.some.inj h; exact ⟨(hw _ (List.mem_of_getElem? (i := 148) rfl)), (hw _ (List.mem_of_getElem? (i := 149) rfl)), (hw _ (List.mem_of_getElem? (i := 150) rfl)), (hw _ (List.mem_of_getElem? (i := 151) rfl))⟩, by intro z h; obtain rfl : cm17 = z := Option.some.inj h; exact ⟨(hw _ (List.mem_of_getElem? (i := 161) rfl)), (hw _ (List.mem_of_getElem? (i := 162) rfl)), (hw _ (List.mem_of_getElem? (i := 163) rfl)), (hw _ (List.mem_of_getElem? (i := 164) rfl))⟩, trivial⟩),
   asc_all (trivial),
   asc_all (trivial),
   asc_all (⟨fun h => absurd rfl h, trivial⟩),
   (by first | (simp [plainName, overriddenIn]; done) | decide +kernel),
   (by decide)⟩
theorem c18_in  (s : St) (Q : St → Prop) (h : Q (sI (sI (sI s 0 20 (0 : Int32)) 0 23 (0 : Int32)) 0 25 (0 : Int32))) : calV PP 18 10 [.ref 0] s Q := by
  refine cal_of (me := cm18) (ls := [some (.ref 0)]) rfl (Nat.le_of_ble_eq_true rfl) rfl ?_
  refine wpc_sl (n := 9) (c' := 10) (pc' := 15) (ls' := [some (.ref 0)]) (st' := []) (s' := (sI (sI (sI s 0 20 (0 : Int32)) 0 23 (0 : Int32)) 0 25 (0 : Int32))) rfl ?_
  exact wpc_ret rfl rfl (fun q => absurd q (by decide)) rfl ⟨rfl, h⟩
theorem c19_in  (s : St) (Q : St → Prop) (h : Q (sI (sI s 0 26 (0 : Int32)) 0 28 (0 : Int32))) : calV PP 19 10 [.ref 0] s Q := by
  refine cal_of (me := cm19) (ls := [some (.ref 0)]) rfl (Nat.le_of_ble_eq_true rfl) rfl ?_
  refine wpc_sl (n := 6) (c' := 10) (pc' := 10) (ls' := [some (.ref 0)]) (st' := []) (s' := (sI (sI s 0 26 (0 : Int32)) 0 28 (0 : Int32))) rfl ?_
  exact wpc_ret rfl rfl (fun q => absurd q (by decide)) rfl ⟨rfl, h⟩
theorem c0_in (a1 : Int32) (s : St) (Q : St → Prop) (h : ∀ m145, m145 = (if a1 < (2 : Int32) then (2 : Int32) else a1) → (∀ m148, m148 = (if (16 : Int32) < m145 then (16 : Int32) else m145) → (calV PP 18 10 [.ref 0] (sI (sI (sI (sI (sI s 0 9 m148) 0 11 (0 : Int32)) 0 13 (0 : Int32)) 0 14 (0 : Int32)) 0 15 (0 : Int32)) (fun s151 => calV PP 19 10 [.ref 0] s151 (fun s154 => Q s154))))) : calV PP 0 0 [.ref 0, .int a1] s Q := by
  refine cal_of (me := cm0) (ls := [some (.ref 0), some (.int a1), none]) rfl (Nat.le_of_ble_eq_true rfl) rfl ?_
  refine wpc_sl (n := 36) (c' := 10) (pc' := 94) (ls' := [some (.ref 0), some (.int a1), some (.int a1)]) (st' := [.int (2 : Int32), .int a1]) (s' := s) rfl ?_
  have hm146 : ∀ m145, m145 = (if a1 < (2 : Int32) then (2 : Int32) else a1) → wpcV PP 0 cm0 10 99 [some (.ref 0), some (.int a1), some (.int m145)] [] s Q := by
    intro m145 em145
    have h147 := h m145 em145
    refine wpc_sl (n := 2) (c' := 10) (pc' := 102) (ls' := [some (.ref 0), some (.int a1), some (.int m145)]) (st' := [.int (16 : Int32), .int m145]) (s' := s) rfl ?_
    have hm149 : ∀ m148, m148 = (if (16 : Int32) < m145 then (16 : Int32) else m145) → wpcV PP 0 cm0 10 108 [some (.ref 0), some (.int a1), some (.int m148)] [] s Q := by
      intro m148 em148
      have h150 := h147 m148 em148
      refine wpc_sl (n := 16) (c' := 10) (pc' := 134) (ls' := [some (.ref 0), some (.int a1), some (.int m148)]) (st' := [.ref 0]) (s' := (sI (sI (sI (sI (sI s 0 9 m148) 0 11 (0 : Int32)) 0 13 (0 : Int32)) 0 14 (0 : Int32)) 0 15 (0 : Int32))) rfl ?_
      refine wpc_callV (m' := 18) (me' := cm18) (as := []) (r := []) rfl rfl rfl rfl rfl ⟨by decide, (by first | decide | exact Nat.le_of_ble_eq_true rfl), (by first | decide | exact Nat.le_of_ble_eq_true rfl), rfl⟩ (calV.mono h150 fun s151 h153 => ?_)
      refine wpc_sl (n := 1) (c' := 10) (pc' := 138) (ls' := [some (.ref 0), some (.int a1), some (.int m148)]) (st' := [.ref 0]) (s' := s151) rfl ?_
      refine wpc_callV (m' := 19) (me' := cm19) (as := []) (r := []) rfl rfl rfl rfl rfl ⟨by decide, (by first | decide | exact Nat.le_of_ble_eq_true rfl), (by first | decide | exact Nat.le_of_ble_eq_true rfl), rfl⟩ (calV.mono h153 fun s154 h156 => ?_)
      exact wpc_ret rfl rfl (fun _ => rfl) rfl ⟨rfl, h156⟩
    refine wpc_icmp (a := 108) (b := 105) rfl (by decide) rfl rfl (wpc_br (p := (16 : Int32) < m145) ⟨fun hc157 => ?_, fun hc157 => ?_⟩)
    · refine wpc_sl (n := 2) (c' := 10) (pc' := 108) (ls' := [some (.ref 0), some (.int a1), some (.int (16 : Int32))]) (st' := []) (s' := s) rfl ?_
      first | exact hm149 _ (by simp only [if_pos hc157]) | exact wpc_lle (by repeat (first | exact trivial | refine ⟨rfl, ?_⟩)) (hm149 _ (by simp only [if_pos hc157]))
    · first | exact hm149 _ (by simp only [if_neg hc157]) | exact wpc_lle (by repeat (first | exact trivial | refine ⟨rfl, ?_⟩)) (hm149 _ (by simp only [if_neg hc157]))
  refine wpc_icmp (a := 99) (b := 97) rfl (by decide) rfl rfl (wpc_br (p := a1 < (2 : Int32)) ⟨fun hc158 => ?_, fun hc158 => ?_⟩)
  · refine wpc_sl (n := 2) (c' := 10) (pc' := 99) (ls' := [some (.ref 0), some (.int a1), some (.int (2 : Int32))]) (st' := []) (s' := s) rfl ?_
    first | exact hm146 _ (by simp only [if_pos hc158]) | exact wpc_lle (by repeat (first | exact trivial | refine ⟨rfl, ?_⟩)) (hm146 _ (by simp only [if_pos hc158]))
  · first | exact hm146 _ (by simp only [if_neg hc158]) | exact wpc_lle (by repeat (first | exact trivial | refine ⟨rfl, ?_⟩)) (hm146 _ (by simp only [if_neg hc158]))
theorem c3_in (a1 : Int32) (s : St) (Q : Int32 → St → Prop) (h : (((gI s 0 14) = (0 : Int32)) → (((gI s 0 11) < (128 : Int32)) → inb 128 (gI s 0 11) ∧ Q (1 : Int32) (sI (sI s 1 (ix (gI s 0 11)) (a1 &&& (255 : Int32))) 0 11 ((gI s 0 11) + (1 : Int32)))) ∧ (¬ ((gI s 0 11) < (128 : Int32)) → Q (0 : Int32) s)) ∧ (¬ ((gI s 0 14) = (0 : Int32)) → Q (0 : Int32) s)) : calI PP 3 10 [.ref 0, .int a1] s Q := by
  refine cal_of (me := cm3) (ls := [some (.ref 0), some (.int a1)]) rfl (Nat.le_of_ble_eq_true rfl) rfl ?_
  refine wpc_sl (n := 2) (c' := 10) (pc' := 4) (ls' := [some (.ref 0), some (.int a1)]) (st' := [.int (gI s 0 14)]) (s' := s) rfl ?_
  refine wpc_if (a := 9) (b := 7) rfl (by decide) rfl rfl (wpc_br (p := (gI s 0 14) = (0 : Int32)) ⟨fun hc159 => ?_, fun hc159 => ?_⟩)
  · have h160 := h.1 hc159
    refine wpc_sl (n := 3) (c' := 10) (pc' := 16) (ls' := [some (.ref 0), some (.int a1)]) (st' := [.int (128 : Int32), .int (gI s 0 11)]) (s' := s) rfl ?_
    refine wpc_icmp (a := 21) (b := 19) rfl (by decide) rfl rfl (wpc_br (p := (gI s 0 11) < (128 : Int32)) ⟨fun hc162 => ?_, fun hc162 => ?_⟩)
    · have h163 := h160.1 hc162
      refine wpc_sl (n := 7) (c' := 10) (pc' := 34) (ls' := [some (.ref 0), some (.int a1)]) (st' := [.int (a1 &&& (255 : Int32)), .int (gI s 0 11), .ref 1]) (s' := s) rfl ?_
      refine wpc_staI (a := 0) (N := 128) (s' := (sI s 1 (ix (gI s 0 11)) (a1 &&& (255 : Int32)))) rfl rfl (by decide) h163.1 rfl ?_
      have h165 := h163.2
      refine wpc_sl (n := 7) (c' := 10) (pc' := 46) (ls' := [some (.ref 0), some (.int a1)]) (st' := [.int (1 : Int32)]) (s' := (sI (sI s 1 (ix (gI s 0 11)) (a1 &&& (255 : Int32))) 0 11 ((gI s 0 11) + (1 : Int32)))) rfl ?_
      exact wpc_ret rfl rfl (fun q => absurd q (by decide)) rfl ⟨(1 : Int32), rfl, h165⟩
    · have h164 := h160.2 hc162
      refine wpc_sl (n := 1) (c' := 10) (pc' := 20) (ls' := [some (.ref 0), some (.int a1)]) (st' := [.int (0 : Int32)]) (s' := s) rfl ?_
      exact wpc_ret rfl rfl (fun q => absurd q (by decide)) rfl ⟨(0 : Int32), rfl, h164⟩
  · have h161 := h.2 hc159
    refine wpc_sl (n := 1) (c' := 10) (pc' := 8) (ls' := [some (.ref 0), some (.int a1)]) (st' := [.int (0 : Int32)]) (s' := s) rfl ?_
    exact wpc_ret rfl rfl (fun q => absurd q (by decide)) rfl ⟨(0 : Int32), rfl, h161⟩
theorem c22_in (a1 : Int32) (s : St) (Q : Int32 → St → Prop) (h : ((a1 < (0 : Int32)) → Q (0 : Int32) s) ∧ (¬ (a1 < (0 : Int32)) → ((a1 < (64 : Int32)) → (((a1 * (gI s 0 9)) < (gI s 0 11)) → (((gI s 0 11) < ((a1 * (gI s 0 9)) + (gI s 0 9))) → Q ((gI s 0 11) - (a1 * (gI s 0 9))) s) ∧ (¬ ((gI s 0 11) < ((a1 * (gI s 0 9)) + (gI s 0 9))) → Q (((a1 * (gI s 0 9)) + (gI s 0 9)) - (a1 * (gI s 0 9))) s)) ∧ (¬ ((a1 * (gI s 0 9)) < (gI s 0 11)) → Q (0 : Int32) s)) ∧ (¬ (a1 < (64 : Int32)) → Q (0 : Int32) s))) : calI PP 22 10 [.ref 0, .int a1] s Q := by
  refine cal_of (me := cm22) (ls := [some (.ref 0), some (.int a1), none, none]) rfl (Nat.le_of_ble_eq_true rfl) rfl ?_
  refine wpc_sl (n := 1) (c' := 10) (pc' := 1) (ls' := [some (.ref 0), some (.int a1), none, none]) (st' := [.int a1]) (s' := s) rfl ?_
  refine wpc_if (a := 10) (b := 4) rfl (by decide) rfl rfl (wpc_br (p := a1 < (0 : Int32)) ⟨fun hc200 => ?_, fun hc200 => ?_⟩)
  · have h201 := h.1 hc200
    refine wpc_sl (n := 1) (c' := 10) (pc' := 11) (ls' := [some (.ref 0), some (.int a1), none, none]) (st' := [.int (0 : Int32)]) (s' := s) rfl ?_
    exact wpc_ret rfl rfl (fun q => absurd q (by decide)) rfl ⟨(0 : Int32), rfl, h201⟩
  · have h202 := h.2 hc200
    refine wpc_sl (n := 2) (c' := 10) (pc' := 7) (ls' := [some (.ref 0), some (.int a1), none, none]) (st' := [.int (64 : Int32), .int a1]) (s' := s) rfl ?_
    refine wpc_icmp (a := 12) (b := 10) rfl (by decide) rfl rfl (wpc_br (p := a1 < (64 : Int32)) ⟨fun hc203 => ?_, fun hc203 => ?_⟩)
    · have h204 := h202.1 hc203
      refine wpc_sl (n := 8) (c' := 10) (pc' := 24) (ls' := [some (.ref 0), some (.int a1), some (.int (a1 * (gI s 0 9))), none]) (st' := [.int (gI s 0 11), .int (a1 * (gI s 0 9))]) (s' := s) rfl ?_
      refine wpc_icmp (a := 29) (b := 27) rfl (by decide) rfl rfl (wpc_br (p := (a1 * (gI s 0 9)) < (gI s 0 11)) ⟨fun hc206 => ?_, fun hc206 => ?_⟩)
      · have h207 := h204.1 hc206
        refine wpc_sl (n := 8) (c' := 10) (pc' := 41) (ls' := [some (.ref 0), some (.int a1), some (.int (a1 * (gI s 0 9))), some (.int ((a1 * (gI s 0 9)) + (gI s 0 9)))]) (st' := [.int (gI s 0 11), .int ((a1 * (gI s 0 9)) + (gI s 0 9))]) (s' := s) rfl ?_
        refine wpc_icmp (a := 49) (b := 44) rfl (by decide) rfl rfl (wpc_br (p := (gI s 0 11) < ((a1 * (gI s 0 9)) + (gI s 0 9))) ⟨fun hc209 => ?_, fun hc209 => ?_⟩)
        · have h210 := h207.1 hc209
          refine wpc_sl (n := 6) (c' := 10) (pc' := 52) (ls' := [some (.ref 0), some (.int a1), some (.int (a1 * (gI s 0 9))), some (.int (gI s 0 11))]) (st' := [.int ((gI s 0 11) - (a1 * (gI s 0 9)))]) (s' := s) rfl ?_
          exact wpc_ret rfl rfl (fun q => absurd q (by decide)) rfl ⟨((gI s 0 11) - (a1 * (gI s 0 9))), rfl, h210⟩
        · have h211 := h207.2 hc209
          refine wpc_sl (n := 3) (c' := 10) (pc' := 52) (ls' := [some (.ref 0), some (.int a1), some (.int (a1 * (gI s 0 9))), some (.int ((a1 * (gI s 0 9)) + (gI s 0 9)))]) (st' := [.int (((a1 * (gI s 0 9)) + (gI s 0 9)) - (a1 * (gI s 0 9)))]) (s' := s) rfl ?_
          exact wpc_ret rfl rfl (fun q => absurd q (by decide)) rfl ⟨(((a1 * (gI s 0 9)) + (gI s 0 9)) - (a1 * (gI s 0 9))), rfl, h211⟩
      · have h208 := h204.2 hc206
        refine wpc_sl (n := 1) (c' := 10) (pc' := 28) (ls' := [some (.ref 0), some (.int a1), some (.int (a1 * (gI s 0 9))), none]) (st' := [.int (0 : Int32)]) (s' := s) rfl ?_
        exact wpc_ret rfl rfl (fun q => absurd q (by decide)) rfl ⟨(0 : Int32), rfl, h208⟩
    · have h205 := h202.2 hc203
      refine wpc_sl (n := 1) (c' := 10) (pc' := 11) (ls' := [some (.ref 0), some (.int a1), none, none]) (st' := [.int (0 : Int32)]) (s' := s) rfl ?_
      exact wpc_ret rfl rfl (fun q => absurd q (by decide)) rfl ⟨(0 : Int32), rfl, h205⟩
theorem c23_in (a1 : Int32) (s : St) (Q : St → Prop) (h : calI PP 22 10 [.ref 0, .int a1] s (fun v183 s182 => wpcV PP 23 cm23 10 26 [some (.ref 0), some (.int a1), some (.int (a1 * (gI s 0 9))), some (.int v183), some (.int (0 : Int32)), some (.int (0 : Int32)), some (.int (-2128831035 : Int32)), some (.int (0 : Int32)), none, none] [] s182 Q)) : calV PP 23 10 [.ref 0, .int a1] s Q := by
  refine cal_of (me := cm23) (ls := [some (.ref 0), some (.int a1), none, none, none, none, none, none, none, none]) rfl (Nat.le_of_ble_eq_true rfl) rfl ?_
  refine wpc_sl (n := 7) (c' := 10) (pc' := 9) (ls' := [some (.ref 0), some (.int a1), some (.int (a1 * (gI s 0 9))), none, none, none, none, none, none, none]) (st' := [.int a1, .ref 0]) (s' := s) rfl ?_
  refine wpc_callI (m' := 22) (me' := cm22) (as := [.int a1]) (r := []) rfl rfl rfl rfl rfl ⟨by decide, (by first | decide | exact Nat.le_of_ble_eq_true rfl), (by first | decide | exact Nat.le_of_ble_eq_true rfl), rfl⟩ (calI.mono h fun v183 s182 h184 => ?_)
  refine wpc_sl (n := 9) (c' := 10) (pc' := 26) (ls' := [some (.ref 0), some (.int a1), some (.int (a1 * (gI s 0 9))), some (.int v183), some (.int (0 : Int32)), some (.int (0 : Int32)), some (.int (-2128831035 : Int32)), some (.int (0 : Int32)), none, none]) (st' := []) (s' := s182) rfl ?_
  exact h184
theorem c23_26 (x1 : Int32) (x2 : Int32) (x3 : Int32) (x4 : Int32) (x5 : Int32) (x6 : Int32) (x7 : Int32) (s : St) (Q : St → Prop) (h : ((x7 < x3) → ((x7 < (16 : Int32)) → (((x2 + x7) < (0 : Int32)) → wpcV PP 23 cm23 10 107 [some (.ref 0), some (.int x1), none, none, some (.int x4), some (.int x5), some (.int x6), none, none, none] [] s Q) ∧ (¬ ((x2 + x7) < (0 : Int32)) → (((x2 + x7) < (gI s 0 11)) → inb 128 (x2 + x7) ∧ wpcV PP 23 cm23 10 26 [some (.ref 0), some (.int x1), some (.int x2), some (.int x3), some (.int ((x4 + (gI s 1 (ix (x2 + x7)))) &&& (65535 : Int32))), some (.int ((x5 + ((x4 + (gI s 1 (ix (x2 + x7)))) &&& (65535 : Int32))) &&& (65535 : Int32))), some (.int ((x6 ^^^ (gI s 1 (ix (x2 + x7)))) * (16777619 : Int32))), some (.int (x7 + (1 : Int32))), none, none] [] s Q) ∧ (¬ ((x2 + x7) < (gI s 0 11)) → wpcV PP 23 cm23 10 107 [some (.ref 0), some (.int x1), none, none, some (.int x4), some (.int x5), some (.int x6), none, none, none] [] s Q))) ∧ (¬ (x7 < (16 : Int32)) → wpcV PP 23 cm23 10 107 [some (.ref 0), some (.int x1), none, none, some (.int x4), some (.int x5), some (.int x6), none, none, none] [] s Q)) ∧ (¬ (x7 < x3) → wpcV PP 23 cm23 10 107 [some (.ref 0), some (.int x1), none, none, some (.int x4), some (.int x5), some (.int x6), none, none, none] [] s Q)) : wpcV PP 23 cm23 10 26 [some (.ref 0), some (.int x1), some (.int x2), some (.int x3), some (.int x4), some (.int x5), some (.int x6), some (.int x7), none, none] [] s Q := by
  refine wpc_sl (n := 2) (c' := 10) (pc' := 29) (ls' := [some (.ref 0), some (.int x1), some (.int x2), some (.int x3), some (.int x4), some (.int x5), some (.int x6), some (.int x7), none, none]) (st' := [.int x3, .int x7]) (s' := s) rfl ?_
  refine wpc_icmp (a := 107) (b := 32) rfl (by decide) rfl rfl (wpc_br (p := x7 < x3) ⟨fun hc185 => ?_, fun hc185 => ?_⟩)
  · have h186 := h.1 hc185
    refine wpc_sl (n := 2) (c' := 10) (pc' := 36) (ls' := [some (.ref 0), some (.int x1), some (.int x2), some (.int x3), some (.int x4), some (.int x5), some (.int x6), some (.int x7), none, none]) (st' := [.int (16 : Int32), .int x7]) (s' := s) rfl ?_
    refine wpc_icmp (a := 107) (b := 39) rfl (by decide) rfl rfl (wpc_br (p := x7 < (16 : Int32)) ⟨fun hc188 => ?_, fun hc188 => ?_⟩)
    · have h189 := h186.1 hc188
      refine wpc_sl (n := 5) (c' := 10) (pc' := 47) (ls' := [some (.ref 0), some (.int x1), some (.int x2), some (.int x3), some (.int x4), some (.int x5), some (.int x6), some (.int x7), some (.int (x2 + x7)), none]) (st' := [.int (x2 + x7)]) (s' := s) rfl ?_
      refine wpc_if (a := 107) (b := 50) rfl (by decide) rfl rfl (wpc_br (p := (x2 + x7) < (0 : Int32)) ⟨fun hc191 => ?_, fun hc191 => ?_⟩)
      · have h192 := h189.1 hc191
        exact wpc_lle (ls := [some (.ref 0), some (.int x1), none, none, some (.int x4), some (.int x5), some (.int x6), none, none, none]) ⟨rfl, rfl, rfl, rfl, rfl, trivial⟩ h192
      · have h193 := h189.2 hc191
        refine wpc_sl (n := 3) (c' := 10) (pc' := 56) (ls' := [some (.ref 0), some (.int x1), some (.int x2), some (.int x3), some (.int x4), some (.int x5), some (.int x6), some (.int x7), some (.int (x2 + x7)), none]) (st' := [.int (gI s 0 11), .int (x2 + x7)]) (s' := s) rfl ?_
        refine wpc_icmp (a := 62) (b := 59) rfl (by decide) rfl rfl (wpc_br (p := (x2 + x7) < (gI s 0 11)) ⟨fun hc194 => ?_, fun hc194 => ?_⟩)
        · have h195 := h193.1 hc194
          refine wpc_sl (n := 3) (c' := 10) (pc' := 68) (ls' := [some (.ref 0), some (.int x1), some (.int x2), some (.int x3), some (.int x4), some (.int x5), some (.int x6), some (.int x7), some (.int (x2 + x7)), none]) (st' := [.int (x2 + x7), .ref 1]) (s' := s) rfl ?_
          refine wpc_ldaI (a := 0) (N := 128) (v := (gI s 1 (ix (x2 + x7)))) rfl rfl (by decide) h195.1 rfl ?_
          have h197 := h195.2
          refine wpc_sl (n := 21) (c' := 10) (pc' := 26) (ls' := [some (.ref 0), some (.int x1), some (.int x2), some (.int x3), some (.int ((x4 + (gI s 1 (ix (x2 + x7)))) &&& (65535 : Int32))), some (.int ((x5 + ((x4 + (gI s 1 (ix (x2 + x7)))) &&& (65535 : Int32))) &&& (65535 : Int32))), some (.int ((x6 ^^^ (gI s 1 (ix (x2 + x7)))) * (16777619 : Int32))), some (.int (x7 + (1 : Int32))), some (.int (x2 + x7)), some (.int (gI s 1 (ix (x2 + x7))))]) (st' := []) (s' := s) rfl ?_
          exact wpc_lle (ls := [some (.ref 0), some (.int x1), some (.int x2), some (.int x3), some (.int ((x4 + (gI s 1 (ix (x2 + x7)))) &&& (65535 : Int32))), some (.int ((x5 + ((x4 + (gI s 1 (ix (x2 + x7)))) &&& (65535 : Int32))) &&& (65535 : Int32))), some (.int ((x6 ^^^ (gI s 1 (ix (x2 + x7)))) * (16777619 : Int32))), some (.int (x7 + (1 : Int32))), none, none]) ⟨rfl, rfl, rfl, rfl, rfl, rfl, rfl, rfl, trivial⟩ h197
        · have h196 := h193.2 hc194
          refine wpc_sl (n := 1) (c' := 10) (pc' := 107) (ls' := [some (.ref 0), some (.int x1), some (.int x2), some (.int x3), some (.int x4), some (.int x5), some (.int x6), some (.int x7), some (.int (x2 + x7)), none]) (st' := []) (s' := s) rfl ?_
          exact wpc_lle (ls := [some (.ref 0), some (.int x1), none, none, some (.int x4), some (.int x5), some (.int x6), none, none, none]) ⟨rfl, rfl, rfl, rfl, rfl, trivial⟩ h196
    · have h190 := h186.2 hc188
      exact wpc_lle (ls := [some (.ref 0), some (.int x1), none, none, some (.int x4), some (.int x5), some (.int x6), none, none, none]) ⟨rfl, rfl, rfl, rfl, rfl, trivial⟩ h190
  · have h187 := h.2 hc185
    exact wpc_lle (ls := [some (.ref 0), some (.int x1), none, none, some (.int x4), some (.int x5), some (.int x6), none, none, none]) ⟨rfl, rfl, rfl, rfl, rfl, trivial⟩ h187
theorem c23_107 (x1 : Int32) (x4 : Int32) (x5 : Int32) (x6 : Int32) (s : St) (Q : St → Prop) (h : inb 64 x1 ∧ inb 64 x1 ∧ Q (sI (sI s 3 (ix x1) (x4 + (x5 * (65536 : Int32)))) 4 (ix x1) x6)) : wpcV PP 23 cm23 10 107 [some (.ref 0), some (.int x1), none, none, some (.int x4), some (.int x5), some (.int x6), none, none, none] [] s Q := by
  refine wpc_sl (n := 8) (c' := 10) (pc' := 120) (ls' := [some (.ref 0), some (.int x1), none, none, some (.int x4), some (.int x5), some (.int x6), none, none, none]) (st' := [.int (x4 + (x5 * (65536 : Int32))), .int x1, .ref 3]) (s' := s) rfl ?_
  refine wpc_staI (a := 2) (N := 64) (s' := (sI s 3 (ix x1) (x4 + (x5 * (65536 : Int32))))) rfl rfl (by decide) h.1 rfl ?_
  have h198 := h.2
  refine wpc_sl (n := 4) (c' := 10) (pc' := 128) (ls' := [some (.ref 0), some (.int x1), none, none, some (.int x4), some (.int x5), some (.int x6), none, none, none]) (st' := [.int x6, .int x1, .ref 4]) (s' := (sI s 3 (ix x1) (x4 + (x5 * (65536 : Int32))))) rfl ?_
  refine wpc_staI (a := 3) (N := 64) (s' := (sI (sI s 3 (ix x1) (x4 + (x5 * (65536 : Int32)))) 4 (ix x1) x6)) rfl rfl (by decide) h198.1 rfl ?_
  have h199 := h198.2
  exact wpc_ret rfl rfl (fun q => absurd q (by decide)) rfl ⟨rfl, h199⟩
theorem c24_in (a1 : Int32) (a2 : Int32) (s : St) (Q : Int32 → St → Prop) (h : Q (((a1 ^^^ (a2 * (7 : Int32))) ^^^ (XT.ushr a2 (6 : Int32))) &&& (63 : Int32)) s) : calI PP 24 10 [.ref 0, .int a1, .int a2] s Q := by
  refine cal_of (me := cm24) (ls := [some (.ref 0), some (.int a1), some (.int a2)]) rfl (Nat.le_of_ble_eq_true rfl) rfl ?_
  refine wpc_sl (n := 11) (c' := 10) (pc' := 14) (ls' := [some (.ref 0), some (.int a1), some (.int a2)]) (st' := [.int (((a1 ^^^ (a2 * (7 : Int32))) ^^^ (XT.ushr a2 (6 : Int32))) &&& (63 : Int32))]) (s' := s) rfl ?_
  exact wpc_ret rfl rfl (fun q => absurd q (by decide)) rfl ⟨(((a1 ^^^ (a2 * (7 : Int32))) ^^^ (XT.ushr a2 (6 : Int32))) &&& (63 : Int32)), rfl, h⟩
theorem c25_in  (s : St) (Q : St → Prop) (h : wpcV PP 25 cm25 10 2 [some (.ref 0), some (.int (0 : Int32)), none, none] [] s Q) : calV PP 25 10 [.ref 0] s Q := by
  refine cal_of (me := cm25) (ls := [some (.ref 0), none, none, none]) rfl (Nat.le_of_ble_eq_true rfl) rfl ?_
  refine wpc_sl (n := 2) (c' := 10) (pc' := 2) (ls' := [some (.ref 0), some (.int (0 : Int32)), none, none]) (st' := []) (s' := s) rfl ?_
  exact h
theorem c25_2 (x1 : Int32) (s : St) (Q : St → Prop) (h : ((x1 < (64 : Int32)) → inb 64 x1 ∧ inb 64 x1 ∧ wpcV PP 25 cm25 10 2 [some (.ref 0), some (.int (x1 + (1 : Int32))), none, none] [] (sI (sI s 5 (ix x1) (-1 : Int32)) 6 (ix x1) (-1 : Int32)) Q) ∧ (¬ (x1 < (64 : Int32)) → wpcV PP 25 cm25 10 35 [some (.ref 0), some (.int ((gI s 0 15) - (1 : Int32))), none, none] [] s Q)) : wpcV PP 25 cm25 10 2 [some (.ref 0), some (.int x1), none, none] [] s Q := by
  refine wpc_sl (n := 2) (c' := 10) (pc' := 5) (ls' := [some (.ref 0), some (.int x1), none, none]) (st' := [.int (64 : Int32), .int x1]) (s' := s) rfl ?_
  refine wpc_icmp (a := 28) (b := 8) rfl (by decide) rfl rfl (wpc_br (p := x1 < (64 : Int32)) ⟨fun hc212 => ?_, fun hc212 => ?_⟩)
  · have h213 := h.1 hc212
    refine wpc_sl (n := 4) (c' := 10) (pc' := 14) (ls' := [some (.ref 0), some (.int x1), none, none]) (st' := [.int (-1 : Int32), .int x1, .ref 5]) (s' := s) rfl ?_
    refine wpc_staI (a := 4) (N := 64) (s' := (sI s 5 (ix x1) (-1 : Int32))) rfl rfl (by decide) h213.1 rfl ?_
    have h215 := h213.2
    refine wpc_sl (n := 4) (c' := 10) (pc' := 21) (ls' := [some (.ref 0), some (.int x1), none, none]) (st' := [.int (-1 : Int32), .int x1, .ref 6]) (s' := (sI s 5 (ix x1) (-1 : Int32))) rfl ?_
    refine wpc_staI (a := 5) (N := 64) (s' := (sI (sI s 5 (ix x1) (-1 : Int32)) 6 (ix x1) (-1 : Int32))) rfl rfl (by decide) h215.1 rfl ?_
    have h216 := h215.2
    refine wpc_sl (n := 2) (c' := 10) (pc' := 2) (ls' := [some (.ref 0), some (.int (x1 + (1 : Int32))), none, none]) (st' := []) (s' := (sI (sI s 5 (ix x1) (-1 : Int32)) 6 (ix x1) (-1 : Int32))) rfl ?_
    exact h216
  · have h214 := h.2 hc212
    refine wpc_sl (n := 5) (c' := 10) (pc' := 35) (ls' := [some (.ref 0), some (.int ((gI s 0 15) - (1 : Int32))), none, none]) (st' := []) (s' := s) rfl ?_
    exact h214
theorem c25_35 (x1 : Int32) (s : St) (Q : St → Prop) (h : ((x1 < (0 : Int32)) → Q s) ∧ (¬ (x1 < (0 : Int32)) → ((x1 < (64 : Int32)) → calI PP 22 10 [.ref 0, .int x1] s (fun v224 s223 => ((v224 = (gI s223 0 9)) → inb 64 x1 ∧ calI PP 24 10 [.ref 0, .int ((gI s223 3 (ix x1)) &&& (65535 : Int32)), .int (XT.ushr (gI s223 3 (ix x1)) (16 : Int32))] s223 (fun v231 s230 => inb 64 v231 ∧ inb 64 x1 ∧ inb 64 v231 ∧ wpcV PP 25 cm25 10 96 [some (.ref 0), some (.int x1), none, none] [] (sI (sI s230 6 (ix x1) (gI s230 5 (ix v231))) 5 (ix v231) x1) Q)) ∧ (¬ (v224 = (gI s223 0 9)) → wpcV PP 25 cm25 10 96 [some (.ref 0), some (.int x1), none, none] [] s223 Q))) ∧ (¬ (x1 < (64 : Int32)) → wpcV PP 25 cm25 10 96 [some (.ref 0), some (.int x1), none, none] [] s Q))) : wpcV PP 25 cm25 10 35 [some (.ref 0), some (.int x1), none, none] [] s Q := by
  refine wpc_sl (n := 1) (c' := 10) (pc' := 36) (ls' := [some (.ref 0), some (.int x1), none, none]) (st' := [.int x1]) (s' := s) rfl ?_
  refine wpc_if (a := 102) (b := 39) rfl (by decide) rfl rfl (wpc_br (p := x1 < (0 : Int32)) ⟨fun hc217 => ?_, fun hc217 => ?_⟩)
  · have h218 := h.1 hc217
    exact wpc_ret rfl rfl (fun q => absurd q (by decide)) rfl ⟨rfl, h218⟩
  · have h219 := h.2 hc217
    refine wpc_sl (n := 2) (c' := 10) (pc' := 42) (ls' := [some (.ref 0), some (.int x1), none, none]) (st' := [.int (64 : Int32), .int x1]) (s' := s) rfl ?_
    refine wpc_icmp (a := 96) (b := 45) rfl (by decide) rfl rfl (wpc_br (p := x1 < (64 : Int32)) ⟨fun hc220 => ?_, fun hc220 => ?_⟩)
    · have h221 := h219.1 hc220
      refine wpc_sl (n := 2) (c' := 10) (pc' := 47) (ls' := [some (.ref 0), some (.int x1), none, none]) (st' := [.int x1, .ref 0]) (s' := s) rfl ?_
      refine wpc_callI (m' := 22) (me' := cm22) (as := [.int x1]) (r := []) rfl rfl rfl rfl rfl ⟨by decide, (by first | decide | exact Nat.le_of_ble_eq_true rfl), (by first | decide | exact Nat.le_of_ble_eq_true rfl), rfl⟩ (calI.mono h221 fun v224 s223 h225 => ?_)
      refine wpc_sl (n := 2) (c' := 10) (pc' := 54) (ls' := [some (.ref 0), some (.int x1), none, none]) (st' := [.int (gI s223 0 9), .int v224]) (s' := s223) rfl ?_
      refine wpc_icmp (a := 96) (b := 57) rfl (by decide) rfl rfl (wpc_br (p := v224 = (gI s223 0 9)) ⟨fun hc226 => ?_, fun hc226 => ?_⟩)
      · have h227 := h225.1 hc226
        refine wpc_sl (n := 3) (c' := 10) (pc' := 62) (ls' := [some (.ref 0), some (.int x1), none, none]) (st' := [.int x1, .ref 3]) (s' := s223) rfl ?_
        refine wpc_ldaI (a := 2) (N := 64) (v := (gI s223 3 (ix x1))) rfl rfl (by decide) h227.1 rfl ?_
        have h229 := h227.2
        refine wpc_sl (n := 8) (c' := 10) (pc' := 73) (ls' := [some (.ref 0), some (.int x1), some (.int (gI s223 3 (ix x1))), none]) (st' := [.int (XT.ushr (gI s223 3 (ix x1)) (16 : Int32)), .int ((gI s223 3 (ix x1)) &&& (65535 : Int32)), .ref 0]) (s' := s223) rfl ?_
        refine wpc_callI (m' := 24) (me' := cm24) (as := [.int ((gI s223 3 (ix x1)) &&& (65535 : Int32)), .int (XT.ushr (gI s223 3 (ix x1)) (16 : Int32))]) (r := []) rfl rfl rfl rfl rfl ⟨by decide, (by first | decide | exact Nat.le_of_ble_eq_true rfl), (by first | decide | exact Nat.le_of_ble_eq_true rfl), rfl⟩ (calI.mono h229 fun v231 s230 h232 => ?_)
        refine wpc_sl (n := 7) (c' := 10) (pc' := 87) (ls' := [some (.ref 0), some (.int x1), some (.int (gI s223 3 (ix x1))), some (.int v231)]) (st' := [.int v231, .ref 5, .int x1, .ref 6]) (s' := s230) rfl ?_
        refine wpc_ldaI (a := 4) (N := 64) (v := (gI s230 5 (ix v231))) rfl rfl (by decide) h232.1 rfl ?_
        have h233 := h232.2
        refine wpc_staI (a := 5) (N := 64) (s' := (sI s230 6 (ix x1) (gI s230 5 (ix v231)))) rfl rfl (by decide) h233.1 rfl ?_
        have h234 := h233.2
        refine wpc_sl (n := 4) (c' := 10) (pc' := 95) (ls' := [some (.ref 0), some (.int x1), some (.int (gI s223 3 (ix x1))), some (.int v231)]) (st' := [.int x1, .int v231, .ref 5]) (s' := (sI s230 6 (ix x1) (gI s230 5 (ix v231)))) rfl ?_
        refine wpc_staI (a := 4) (N := 64) (s' := (sI (sI s230 6 (ix x1) (gI s230 5 (ix v231))) 5 (ix v231) x1)) rfl rfl (by decide) h234.1 rfl ?_
        have h235 := h234.2
        exact wpc_lle (ls := [some (.ref 0), some (.int x1), none, none]) ⟨rfl, rfl, trivial⟩ h235
      · have h228 := h225.2 hc226
        exact h228
    · have h222 := h219.2 hc220
      exact h222
theorem c25_96 (x1 : Int32) (s : St) (Q : St → Prop) (h : wpcV PP 25 cm25 10 35 [some (.ref 0), some (.int (x1 + (-1 : Int32))), none, none] [] s Q) : wpcV PP 25 cm25 10 96 [some (.ref 0), some (.int x1), none, none] [] s Q := by
  refine wpc_sl (n := 2) (c' := 10) (pc' := 35) (ls' := [some (.ref 0), some (.int (x1 + (-1 : Int32))), none, none]) (st' := []) (s' := s) rfl ?_
  exact h
theorem c5_in  (s : St) (Q : Int32 → St → Prop) (h : (((gI s 0 14) = (0 : Int32)) → (¬ ((gI s 0 9) = (0 : Int32))) ∧ (((64 : Int32) < ((((gI s 0 11) + (gI s 0 9)) - (1 : Int32)) / (gI s 0 9))) → wpcI PP 5 cm5 10 44 [some (.ref 0), none] [] (sI (sI s 0 15 ((((gI s 0 11) + (gI s 0 9)) - (1 : Int32)) / (gI s 0 9))) 0 15 (64 : Int32)) Q) ∧ (¬ ((64 : Int32) < ((((gI s 0 11) + (gI s 0 9)) - (1 : Int32)) / (gI s 0 9))) → wpcI PP 5 cm5 10 44 [some (.ref 0), none] [] (sI s 0 15 ((((gI s 0 11) + (gI s 0 9)) - (1 : Int32)) / (gI s 0 9))) Q)) ∧ (¬ ((gI s 0 14) = (0 : Int32)) → Q (-1 : Int32) s)) : calI PP 5 10 [.ref 0] s Q := by
  refine cal_of (me := cm5) (ls := [some (.ref 0), none]) rfl (Nat.le_of_ble_eq_true rfl) rfl ?_
  refine wpc_sl (n := 2) (c' := 10) (pc' := 4) (ls' := [some (.ref 0), none]) (st' := [.int (gI s 0 14)]) (s' := s) rfl ?_
  refine wpc_if (a := 9) (b := 7) rfl (by decide) rfl rfl (wpc_br (p := (gI s 0 14) = (0 : Int32)) ⟨fun hc166 => ?_, fun hc166 => ?_⟩)
  · have h167 := h.1 hc166
    refine wpc_sl (n := 10) (c' := 10) (pc' := 25) (ls' := [some (.ref 0), none]) (st' := [.int (gI s 0 9), .int (((gI s 0 11) + (gI s 0 9)) - (1 : Int32)), .ref 0]) (s' := s) rfl ?_
    refine wpc_idiv rfl h167.1 ?_
    have h169 := h167.2
    refine wpc_sl (n := 4) (c' := 10) (pc' := 35) (ls' := [some (.ref 0), none]) (st' := [.int (64 : Int32), .int ((((gI s 0 11) + (gI s 0 9)) - (1 : Int32)) / (gI s 0 9))]) (s' := (sI s 0 15 ((((gI s 0 11) + (gI s 0 9)) - (1 : Int32)) / (gI s 0 9)))) rfl ?_
    refine wpc_icmp (a := 44) (b := 38) rfl (by decide) rfl rfl (wpc_br (p := (64 : Int32) < ((((gI s 0 11) + (gI s 0 9)) - (1 : Int32)) / (gI s 0 9))) ⟨fun hc170 => ?_, fun hc170 => ?_⟩)
    · have h171 := h169.1 hc170
      refine wpc_sl (n := 3) (c' := 10) (pc' := 44) (ls' := [some (.ref 0), none]) (st' := []) (s' := (sI (sI s 0 15 ((((gI s 0 11) + (gI s 0 9)) - (1 : Int32)) / (gI s 0 9))) 0 15 (64 : Int32))) rfl ?_
      exact h171
    · have h172 := h169.2 hc170
      exact h172
  · have h168 := h.2 hc166
    refine wpc_sl (n := 1) (c' := 10) (pc' := 8) (ls' := [some (.ref 0), none]) (st' := [.int (-1 : Int32)]) (s' := s) rfl ?_
    exact wpc_ret rfl rfl (fun q => absurd q (by decide)) rfl ⟨(-1 : Int32), rfl, h168⟩
theorem c5_44  (s : St) (Q : Int32 → St → Prop) (h : wpcI PP 5 cm5 10 46 [some (.ref 0), some (.int (0 : Int32))] [] s Q) : wpcI PP 5 cm5 10 44 [some (.ref 0), none] [] s Q := by
  refine wpc_sl (n := 2) (c' := 10) (pc' := 46) (ls' := [some (.ref 0), some (.int (0 : Int32))]) (st' := []) (s' := s) rfl ?_
  exact h
theorem c5_46 (x1 : Int32) (s : St) (Q : Int32 → St → Prop) (h : ((x1 < (gI s 0 15)) → calV PP 23 10 [.ref 0, .int x1] s (fun s176 => wpcI PP 5 cm5 10 46 [some (.ref 0), some (.int (x1 + (1 : Int32)))] [] s176 Q)) ∧ (¬ (x1 < (gI s 0 15)) → calV PP 25 10 [.ref 0] s (fun s179 => Q (gI s179 0 15) (sI s179 0 14 (1 : Int32))))) : wpcI PP 5 cm5 10 46 [some (.ref 0), some (.int x1)] [] s Q := by
  refine wpc_sl (n := 3) (c' := 10) (pc' := 51) (ls' := [some (.ref 0), some (.int x1)]) (st' := [.int (gI s 0 15), .int x1]) (s' := s) rfl ?_
  refine wpc_icmp (a := 65) (b := 54) rfl (by decide) rfl rfl (wpc_br (p := x1 < (gI s 0 15)) ⟨fun hc173 => ?_, fun hc173 => ?_⟩)
  · have h174 := h.1 hc173
    refine wpc_sl (n := 2) (c' := 10) (pc' := 56) (ls' := [some (.ref 0), some (.int x1)]) (st' := [.int x1, .ref 0]) (s' := s) rfl ?_
    refine wpc_callV (m' := 23) (me' := cm23) (as := [.int x1]) (r := []) rfl rfl rfl rfl rfl ⟨by decide, (by first | decide | exact Nat.le_of_ble_eq_true rfl), (by first | decide | exact Nat.le_of_ble_eq_true rfl), rfl⟩ (calV.mono h174 fun s176 h178 => ?_)
    refine wpc_sl (n := 2) (c' := 10) (pc' := 46) (ls' := [some (.ref 0), some (.int (x1 + (1 : Int32)))]) (st' := []) (s' := s176) rfl ?_
    exact h178
  · have h175 := h.2 hc173
    refine wpc_sl (n := 1) (c' := 10) (pc' := 66) (ls' := [some (.ref 0), some (.int x1)]) (st' := [.ref 0]) (s' := s) rfl ?_
    refine wpc_callV (m' := 25) (me' := cm25) (as := []) (r := []) rfl rfl rfl rfl rfl ⟨by decide, (by first | decide | exact Nat.le_of_ble_eq_true rfl), (by first | decide | exact Nat.le_of_ble_eq_true rfl), rfl⟩ (calV.mono h175 fun s179 h181 => ?_)
    refine wpc_sl (n := 5) (c' := 10) (pc' := 78) (ls' := [some (.ref 0), some (.int x1)]) (st' := [.int (gI s179 0 15)]) (s' := (sI s179 0 14 (1 : Int32))) rfl ?_
    exact wpc_ret rfl rfl (fun q => absurd q (by decide)) rfl ⟨(gI s179 0 15), rfl, h181⟩
theorem c4_in (a1 : Int32) (s : St) (Q : Int32 → St → Prop) (h : (((gI s 0 13) < (128 : Int32)) → inb 128 (gI s 0 13) ∧ calV PP 18 10 [.ref 0] (sI (sI s 2 (ix (gI s 0 13)) (a1 &&& (255 : Int32))) 0 13 ((gI s 0 13) + (1 : Int32))) (fun s240 => calV PP 19 10 [.ref 0] s240 (fun s243 => Q (1 : Int32) s243))) ∧ (¬ ((gI s 0 13) < (128 : Int32)) → Q (0 : Int32) s)) : calI PP 4 10 [.ref 0, .int a1] s Q := by
  refine cal_of (me := cm4) (ls := [some (.ref 0), some (.int a1)]) rfl (Nat.le_of_ble_eq_true rfl) rfl ?_
  refine wpc_sl (n := 3) (c' := 10) (pc' := 7) (ls' := [some (.ref 0), some (.int a1)]) (st' := [.int (128 : Int32), .int (gI s 0 13)]) (s' := s) rfl ?_
  refine wpc_icmp (a := 12) (b := 10) rfl (by decide) rfl rfl (wpc_br (p := (gI s 0 13) < (128 : Int32)) ⟨fun hc236 => ?_, fun hc236 => ?_⟩)
  · have h237 := h.1 hc236
    refine wpc_sl (n := 7) (c' := 10) (pc' := 25) (ls' := [some (.ref 0), some (.int a1)]) (st' := [.int (a1 &&& (255 : Int32)), .int (gI s 0 13), .ref 2]) (s' := s) rfl ?_
    refine wpc_staI (a := 1) (N := 128) (s' := (sI s 2 (ix (gI s 0 13)) (a1 &&& (255 : Int32)))) rfl rfl (by decide) h237.1 rfl ?_
    have h239 := h237.2
    refine wpc_sl (n := 7) (c' := 10) (pc' := 37) (ls' := [some (.ref 0), some (.int a1)]) (st' := [.ref 0]) (s' := (sI (sI s 2 (ix (gI s 0 13)) (a1 &&& (255 : Int32))) 0 13 ((gI s 0 13) + (1 : Int32)))) rfl ?_
    refine wpc_callV (m' := 18) (me' := cm18) (as := []) (r := []) rfl rfl rfl rfl rfl ⟨by decide, (by first | decide | exact Nat.le_of_ble_eq_true rfl), (by first | decide | exact Nat.le_of_ble_eq_true rfl), rfl⟩ (calV.mono h239 fun s240 h242 => ?_)
    refine wpc_sl (n := 1) (c' := 10) (pc' := 41) (ls' := [some (.ref 0), some (.int a1)]) (st' := [.ref 0]) (s' := s240) rfl ?_
    refine wpc_callV (m' := 19) (me' := cm19) (as := []) (r := []) rfl rfl rfl rfl rfl ⟨by decide, (by first | decide | exact Nat.le_of_ble_eq_true rfl), (by first | decide | exact Nat.le_of_ble_eq_true rfl), rfl⟩ (calV.mono h242 fun s243 h245 => ?_)
    refine wpc_sl (n := 1) (c' := 10) (pc' := 45) (ls' := [some (.ref 0), some (.int a1)]) (st' := [.int (1 : Int32)]) (s' := s243) rfl ?_
    exact wpc_ret rfl rfl (fun q => absurd q (by decide)) rfl ⟨(1 : Int32), rfl, h245⟩
  · have h238 := h.2 hc236
    refine wpc_sl (n := 1) (c' := 10) (pc' := 11) (ls' := [some (.ref 0), some (.int a1)]) (st' := [.int (0 : Int32)]) (s' := s) rfl ?_
    exact wpc_ret rfl rfl (fun q => absurd q (by decide)) rfl ⟨(0 : Int32), rfl, h238⟩
theorem c29_in (a1 : Int32) (a2 : Int32) (a3 : Int32) (s : St) (Q : Int32 → St → Prop) (h : wpcI PP 29 cm29 10 11 [some (.ref 0), none, some (.int a2), some (.int a3), some (.int (a1 * (gI s 0 9))), some (.int (0 : Int32)), none, none] [] s Q) : calI PP 29 10 [.ref 0, .int a1, .int a2, .int a3] s Q := by
  refine cal_of (me := cm29) (ls := [some (.ref 0), some (.int a1), some (.int a2), some (.int a3), none, none, none, none]) rfl (Nat.le_of_ble_eq_true rfl) rfl ?_
  refine wpc_sl (n := 7) (c' := 10) (pc' := 11) (ls' := [some (.ref 0), some (.int a1), some (.int a2), some (.int a3), some (.int (a1 * (gI s 0 9))), some (.int (0 : Int32)), none, none]) (st' := []) (s' := s) rfl ?_
  exact wpc_lle (ls := [some (.ref 0), none, some (.int a2), some (.int a3), some (.int (a1 * (gI s 0 9))), some (.int (0 : Int32)), none, none]) ⟨rfl, rfl, rfl, rfl, rfl, trivial⟩ h
theorem c29_11 (x2 : Int32) (x3 : Int32) (x4 : Int32) (x5 : Int32) (s : St) (Q : Int32 → St → Prop) (h : ((x5 < x3) → ((x5 < (16 : Int32)) → (((x4 + x5) < (0 : Int32)) → Q (0 : Int32) s) ∧ (¬ ((x4 + x5) < (0 : Int32)) → (((x4 + x5) < (gI s 0 11)) → (((x2 + x5) < (0 : Int32)) → Q (0 : Int32) s) ∧ (¬ ((x2 + x5) < (0 : Int32)) → (((x2 + x5) < (gI s 0 13)) → inb 128 (x4 + x5) ∧ inb 128 (x2 + x5) ∧ (((gI s 1 (ix (x4 + x5))) = (gI s 2 (ix (x2 + x5)))) → wpcI PP 29 cm29 10 11 [some (.ref 0), none, some (.int x2), some (.int x3), some (.int x4), some (.int (x5 + (1 : Int32))), none, none] [] s Q) ∧ (¬ ((gI s 1 (ix (x4 + x5))) = (gI s 2 (ix (x2 + x5)))) → Q (0 : Int32) s)) ∧ (¬ ((x2 + x5) < (gI s 0 13)) → Q (0 : Int32) s))) ∧ (¬ ((x4 + x5) < (gI s 0 11)) → Q (0 : Int32) s))) ∧ (¬ (x5 < (16 : Int32)) → Q (1 : Int32) s)) ∧ (¬ (x5 < x3) → Q (1 : Int32) s)) : wpcI PP 29 cm29 10 11 [some (.ref 0), none, some (.int x2), some (.int x3), some (.int x4), some (.int x5), none, none] [] s Q := by
  refine wpc_sl (n := 2) (c' := 10) (pc' := 14) (ls' := [some (.ref 0), none, some (.int x2), some (.int x3), some (.int x4), some (.int x5), none, none]) (st' := [.int x3, .int x5]) (s' := s) rfl ?_
  refine wpc_icmp (a := 92) (b := 17) rfl (by decide) rfl rfl (wpc_br (p := x5 < x3) ⟨fun hc329 => ?_, fun hc329 => ?_⟩)
  · have h330 := h.1 hc329
    refine wpc_sl (n := 2) (c' := 10) (pc' := 21) (ls' := [some (.ref 0), none, some (.int x2), some (.int x3), some (.int x4), some (.int x5), none, none]) (st' := [.int (16 : Int32), .int x5]) (s' := s) rfl ?_
    refine wpc_icmp (a := 92) (b := 24) rfl (by decide) rfl rfl (wpc_br (p := x5 < (16 : Int32)) ⟨fun hc332 => ?_, fun hc332 => ?_⟩)
    · have h333 := h330.1 hc332
      refine wpc_sl (n := 9) (c' := 10) (pc' := 39) (ls' := [some (.ref 0), none, some (.int x2), some (.int x3), some (.int x4), some (.int x5), some (.int (x4 + x5)), some (.int (x2 + x5))]) (st' := [.int (x4 + x5)]) (s' := s) rfl ?_
      refine wpc_if (a := 65) (b := 42) rfl (by decide) rfl rfl (wpc_br (p := (x4 + x5) < (0 : Int32)) ⟨fun hc335 => ?_, fun hc335 => ?_⟩)
      · have h336 := h333.1 hc335
        refine wpc_sl (n := 1) (c' := 10) (pc' := 66) (ls' := [some (.ref 0), none, some (.int x2), some (.int x3), some (.int x4), some (.int x5), some (.int (x4 + x5)), some (.int (x2 + x5))]) (st' := [.int (0 : Int32)]) (s' := s) rfl ?_
        exact wpc_ret rfl rfl (fun q => absurd q (by decide)) rfl ⟨(0 : Int32), rfl, h336⟩
      · have h337 := h333.2 hc335
        refine wpc_sl (n := 3) (c' := 10) (pc' := 48) (ls' := [some (.ref 0), none, some (.int x2), some (.int x3), some (.int x4), some (.int x5), some (.int (x4 + x5)), some (.int (x2 + x5))]) (st' := [.int (gI s 0 11), .int (x4 + x5)]) (s' := s) rfl ?_
        refine wpc_icmp (a := 65) (b := 51) rfl (by decide) rfl rfl (wpc_br (p := (x4 + x5) < (gI s 0 11)) ⟨fun hc338 => ?_, fun hc338 => ?_⟩)
        · have h339 := h337.1 hc338
          refine wpc_sl (n := 1) (c' := 10) (pc' := 53) (ls' := [some (.ref 0), none, some (.int x2), some (.int x3), some (.int x4), some (.int x5), some (.int (x4 + x5)), some (.int (x2 + x5))]) (st' := [.int (x2 + x5)]) (s' := s) rfl ?_
          refine wpc_if (a := 65) (b := 56) rfl (by decide) rfl rfl (wpc_br (p := (x2 + x5) < (0 : Int32)) ⟨fun hc341 => ?_, fun hc341 => ?_⟩)
          · have h342 := h339.1 hc341
            refine wpc_sl (n := 1) (c' := 10) (pc' := 66) (ls' := [some (.ref 0), none, some (.int x2), some (.int x3), some (.int x4), some (.int x5), some (.int (x4 + x5)), some (.int (x2 + x5))]) (st' := [.int (0 : Int32)]) (s' := s) rfl ?_
            exact wpc_ret rfl rfl (fun q => absurd q (by decide)) rfl ⟨(0 : Int32), rfl, h342⟩
          · have h343 := h339.2 hc341
            refine wpc_sl (n := 3) (c' := 10) (pc' := 62) (ls' := [some (.ref 0), none, some (.int x2), some (.int x3), some (.int x4), some (.int x5), some (.int (x4 + x5)), some (.int (x2 + x5))]) (st' := [.int (gI s 0 13), .int (x2 + x5)]) (s' := s) rfl ?_
            refine wpc_icmp (a := 67) (b := 65) rfl (by decide) rfl rfl (wpc_br (p := (x2 + x5) < (gI s 0 13)) ⟨fun hc344 => ?_, fun hc344 => ?_⟩)
            · have h345 := h343.1 hc344
              refine wpc_sl (n := 3) (c' := 10) (pc' := 73) (ls' := [some (.ref 0), none, some (.int x2), some (.int x3), some (.int x4), some (.int x5), some (.int (x4 + x5)), some (.int (x2 + x5))]) (st' := [.int (x4 + x5), .ref 1]) (s' := s) rfl ?_
              refine wpc_ldaI (a := 0) (N := 128) (v := (gI s 1 (ix (x4 + x5)))) rfl rfl (by decide) h345.1 rfl ?_
              have h347 := h345.2
              refine wpc_sl (n := 3) (c' := 10) (pc' := 80) (ls' := [some (.ref 0), none, some (.int x2), some (.int x3), some (.int x4), some (.int x5), some (.int (x4 + x5)), some (.int (x2 + x5))]) (st' := [.int (x2 + x5), .ref 2, .int (gI s 1 (ix (x4 + x5)))]) (s' := s) rfl ?_
              refine wpc_ldaI (a := 1) (N := 128) (v := (gI s 2 (ix (x2 + x5)))) rfl rfl (by decide) h347.1 rfl ?_
              have h348 := h347.2
              refine wpc_icmp (a := 86) (b := 84) rfl (by decide) rfl rfl (wpc_br (p := (gI s 1 (ix (x4 + x5))) = (gI s 2 (ix (x2 + x5)))) ⟨fun hc349 => ?_, fun hc349 => ?_⟩)
              · have h350 := h348.1 hc349
                refine wpc_sl (n := 2) (c' := 10) (pc' := 11) (ls' := [some (.ref 0), none, some (.int x2), some (.int x3), some (.int x4), some (.int (x5 + (1 : Int32))), some (.int (x4 + x5)), some (.int (x2 + x5))]) (st' := []) (s' := s) rfl ?_
                exact wpc_lle (ls := [some (.ref 0), none, some (.int x2), some (.int x3), some (.int x4), some (.int (x5 + (1 : Int32))), none, none]) ⟨rfl, rfl, rfl, rfl, rfl, trivial⟩ h350
              · have h351 := h348.2 hc349
                refine wpc_sl (n := 1) (c' := 10) (pc' := 85) (ls' := [some (.ref 0), none, some (.int x2), some (.int x3), some (.int x4), some (.int x5), some (.int (x4 + x5)), some (.int (x2 + x5))]) (st' := [.int (0 : Int32)]) (s' := s) rfl ?_
                exact wpc_ret rfl rfl (fun q => absurd q (by decide)) rfl ⟨(0 : Int32), rfl, h351⟩
            · have h346 := h343.2 hc344
              refine wpc_sl (n := 1) (c' := 10) (pc' := 66) (ls' := [some (.ref 0), none, some (.int x2), some (.int x3), some (.int x4), some (.int x5), some (.int (x4 + x5)), some (.int (x2 + x5))]) (st' := [.int (0 : Int32)]) (s' := s) rfl ?_
              exact wpc_ret rfl rfl (fun q => absurd q (by decide)) rfl ⟨(0 : Int32), rfl, h346⟩
        · have h340 := h337.2 hc338
          refine wpc_sl (n := 1) (c' := 10) (pc' := 66) (ls' := [some (.ref 0), none, some (.int x2), some (.int x3), some (.int x4), some (.int x5), some (.int (x4 + x5)), some (.int (x2 + x5))]) (st' := [.int (0 : Int32)]) (s' := s) rfl ?_
          exact wpc_ret rfl rfl (fun q => absurd q (by decide)) rfl ⟨(0 : Int32), rfl, h340⟩
    · have h334 := h330.2 hc332
      refine wpc_sl (n := 1) (c' := 10) (pc' := 93) (ls' := [some (.ref 0), none, some (.int x2), some (.int x3), some (.int x4), some (.int x5), none, none]) (st' := [.int (1 : Int32)]) (s' := s) rfl ?_
      exact wpc_ret rfl rfl (fun q => absurd q (by decide)) rfl ⟨(1 : Int32), rfl, h334⟩
  · have h331 := h.2 hc329
    refine wpc_sl (n := 1) (c' := 10) (pc' := 93) (ls' := [some (.ref 0), none, some (.int x2), some (.int x3), some (.int x4), some (.int x5), none, none]) (st' := [.int (1 : Int32)]) (s' := s) rfl ?_
    exact wpc_ret rfl rfl (fun q => absurd q (by decide)) rfl ⟨(1 : Int32), rfl, h331⟩
theorem c31_in (a1 : Int32) (a2 : Int32) (s : St) (Q : Int32 → St → Prop) (h : (((0 : Int32) < (gI s 0 15)) → calI PP 22 10 [.ref 0, .int ((gI s 0 15) - (1 : Int32))] s (fun v318 s317 => ((v318 = a2) → calI PP 29 10 [.ref 0, .int ((gI s 0 15) - (1 : Int32)), .int a1, .int a2] s317 (fun v324 s323 => ((v324 = (0 : Int32)) → Q (-1 : Int32) s323) ∧ (¬ (v324 = (0 : Int32)) → Q ((gI s 0 15) - (1 : Int32)) s323))) ∧ (¬ (v318 = a2) → Q (-1 : Int32) s317))) ∧ (¬ ((0 : Int32) < (gI s 0 15)) → Q (-1 : Int32) s)) : calI PP 31 10 [.ref 0, .int a1, .int a2] s Q := by
  refine cal_of (me := cm31) (ls := [some (.ref 0), some (.int a1), some (.int a2), none]) rfl (Nat.le_of_ble_eq_true rfl) rfl ?_
  refine wpc_sl (n := 2) (c' := 10) (pc' := 4) (ls' := [some (.ref 0), some (.int a1), some (.int a2), none]) (st' := [.int (gI s 0 15)]) (s' := s) rfl ?_
  refine wpc_if (a := 9) (b := 7) rfl (by decide) rfl rfl (wpc_br (p := (0 : Int32) < (gI s 0 15)) ⟨fun hc314 => ?_, fun hc314 => ?_⟩)
  · have h315 := h.1 hc314
    refine wpc_sl (n := 7) (c' := 10) (pc' := 18) (ls' := [some (.ref 0), some (.int a1), some (.int a2), some (.int ((gI s 0 15) - (1 : Int32)))]) (st' := [.int ((gI s 0 15) - (1 : Int32)), .ref 0]) (s' := s) rfl ?_
    refine wpc_callI (m' := 22) (me' := cm22) (as := [.int ((gI s 0 15) - (1 : Int32))]) (r := []) rfl rfl rfl rfl rfl ⟨by decide, (by first | decide | exact Nat.le_of_ble_eq_true rfl), (by first | decide | exact Nat.le_of_ble_eq_true rfl), rfl⟩ (calI.mono h315 fun v318 s317 h319 => ?_)
    refine wpc_sl (n := 1) (c' := 10) (pc' := 22) (ls' := [some (.ref 0), some (.int a1), some (.int a2), some (.int ((gI s 0 15) - (1 : Int32)))]) (st' := [.int a2, .int v318]) (s' := s317) rfl ?_
    refine wpc_icmp (a := 27) (b := 25) rfl (by decide) rfl rfl (wpc_br (p := v318 = a2) ⟨fun hc320 => ?_, fun hc320 => ?_⟩)
    · have h321 := h319.1 hc320
      refine wpc_sl (n := 4) (c' := 10) (pc' := 31) (ls' := [some (.ref 0), some (.int a1), some (.int a2), some (.int ((gI s 0 15) - (1 : Int32)))]) (st' := [.int a2, .int a1, .int ((gI s 0 15) - (1 : Int32)), .ref 0]) (s' := s317) rfl ?_
      refine wpc_callI (m' := 29) (me' := cm29) (as := [.int ((gI s 0 15) - (1 : Int32)), .int a1, .int a2]) (r := []) rfl rfl rfl rfl rfl ⟨by decide, (by first | decide | exact Nat.le_of_ble_eq_true rfl), (by first | decide | exact Nat.le_of_ble_eq_true rfl), rfl⟩ (calI.mono h321 fun v324 s323 h325 => ?_)
      refine wpc_if (a := 39) (b := 37) rfl (by decide) rfl rfl (wpc_br (p := v324 = (0 : Int32)) ⟨fun hc326 => ?_, fun hc326 => ?_⟩)
      · have h327 := h325.1 hc326
        refine wpc_sl (n := 1) (c' := 10) (pc' := 40) (ls' := [some (.ref 0), some (.int a1), some (.int a2), some (.int ((gI s 0 15) - (1 : Int32)))]) (st' := [.int (-1 : Int32)]) (s' := s323) rfl ?_
        exact wpc_ret rfl rfl (fun q => absurd q (by decide)) rfl ⟨(-1 : Int32), rfl, h327⟩
      · have h328 := h325.2 hc326
        refine wpc_sl (n := 1) (c' := 10) (pc' := 38) (ls' := [some (.ref 0), some (.int a1), some (.int a2), some (.int ((gI s 0 15) - (1 : Int32)))]) (st' := [.int ((gI s 0 15) - (1 : Int32))]) (s' := s323) rfl ?_
        exact wpc_ret rfl rfl (fun q => absurd q (by decide)) rfl ⟨((gI s 0 15) - (1 : Int32)), rfl, h328⟩
    · have h322 := h319.2 hc320
      refine wpc_sl (n := 1) (c' := 10) (pc' := 26) (ls' := [some (.ref 0), some (.int a1), some (.int a2), some (.int ((gI s 0 15) - (1 : Int32)))]) (st' := [.int (-1 : Int32)]) (s' := s317) rfl ?_
      exact wpc_ret rfl rfl (fun q => absurd q (by decide)) rfl ⟨(-1 : Int32), rfl, h322⟩
  · have h316 := h.2 hc314
    refine wpc_sl (n := 1) (c' := 10) (pc' := 8) (ls' := [some (.ref 0), some (.int a1), some (.int a2), none]) (st' := [.int (-1 : Int32)]) (s' := s) rfl ?_
    exact wpc_ret rfl rfl (fun q => absurd q (by decide)) rfl ⟨(-1 : Int32), rfl, h316⟩
theorem c26_in (a1 : Int32) (a2 : Int32) (s : St) (Q : St → Prop) (h : wpcV PP 26 cm26 10 8 [some (.ref 0), some (.int a1), some (.int a2), some (.int (0 : Int32)), some (.int (0 : Int32)), some (.int (0 : Int32)), none] [] s Q) : calV PP 26 10 [.ref 0, .int a1, .int a2] s Q := by
  refine cal_of (me := cm26) (ls := [some (.ref 0), some (.int a1), some (.int a2), none, none, none, none]) rfl (Nat.le_of_ble_eq_true rfl) rfl ?_
  refine wpc_sl (n := 6) (c' := 10) (pc' := 8) (ls' := [some (.ref 0), some (.int a1), some (.int a2), some (.int (0 : Int32)), some (.int (0 : Int32)), some (.int (0 : Int32)), none]) (st' := []) (s' := s) rfl ?_
  exact h
theorem c26_8 (x1 : Int32) (x2 : Int32) (x3 : Int32) (x4 : Int32) (x5 : Int32) (s : St) (Q : St → Prop) (h : ((x5 < x2) → ((x5 < (16 : Int32)) → (((x1 + x5) < (0 : Int32)) → wpcV PP 26 cm26 10 72 [some (.ref 0), none, none, some (.int x3), some (.int x4), none, none] [] s Q) ∧ (¬ ((x1 + x5) < (0 : Int32)) → (((x1 + x5) < (gI s 0 13)) → inb 128 (x1 + x5) ∧ wpcV PP 26 cm26 10 8 [some (.ref 0), some (.int x1), some (.int x2), some (.int ((x3 + (gI s 2 (ix (x1 + x5)))) &&& (65535 : Int32))), some (.int ((x4 + ((x3 + (gI s 2 (ix (x1 + x5)))) &&& (65535 : Int32))) &&& (65535 : Int32))), some (.int (x5 + (1 : Int32))), none] [] s Q) ∧ (¬ ((x1 + x5) < (gI s 0 13)) → wpcV PP 26 cm26 10 72 [some (.ref 0), none, none, some (.int x3), some (.int x4), none, none] [] s Q))) ∧ (¬ (x5 < (16 : Int32)) → wpcV PP 26 cm26 10 72 [some (.ref 0), none, none, some (.int x3), some (.int x4), none, none] [] s Q)) ∧ (¬ (x5 < x2) → wpcV PP 26 cm26 10 72 [some (.ref 0), none, none, some (.int x3), some (.int x4), none, none] [] s Q)) : wpcV PP 26 cm26 10 8 [some (.ref 0), some (.int x1), some (.int x2), some (.int x3), some (.int x4), some (.int x5), none] [] s Q := by
  refine wpc_sl (n := 2) (c' := 10) (pc' := 11) (ls' := [some (.ref 0), some (.int x1), some (.int x2), some (.int x3), some (.int x4), some (.int x5), none]) (st' := [.int x2, .int x5]) (s' := s) rfl ?_
  refine wpc_icmp (a := 72) (b := 14) rfl (by decide) rfl rfl (wpc_br (p := x5 < x2) ⟨fun hc352 => ?_, fun hc352 => ?_⟩)
  · have h353 := h.1 hc352
    refine wpc_sl (n := 2) (c' := 10) (pc' := 18) (ls' := [some (.ref 0), some (.int x1), some (.int x2), some (.int x3), some (.int x4), some (.int x5), none]) (st' := [.int (16 : Int32), .int x5]) (s' := s) rfl ?_
    refine wpc_icmp (a := 72) (b := 21) rfl (by decide) rfl rfl (wpc_br (p := x5 < (16 : Int32)) ⟨fun hc355 => ?_, fun hc355 => ?_⟩)
    · have h356 := h353.1 hc355
      refine wpc_sl (n := 5) (c' := 10) (pc' := 29) (ls' := [some (.ref 0), some (.int x1), some (.int x2), some (.int x3), some (.int x4), some (.int x5), some (.int (x1 + x5))]) (st' := [.int (x1 + x5)]) (s' := s) rfl ?_
      refine wpc_if (a := 72) (b := 32) rfl (by decide) rfl rfl (wpc_br (p := (x1 + x5) < (0 : Int32)) ⟨fun hc358 => ?_, fun hc358 => ?_⟩)
      · have h359 := h356.1 hc358
        exact wpc_lle (ls := [some (.ref 0), none, none, some (.int x3), some (.int x4), none, none]) ⟨rfl, rfl, rfl, trivial⟩ h359
      · have h360 := h356.2 hc358
        refine wpc_sl (n := 3) (c' := 10) (pc' := 38) (ls' := [some (.ref 0), some (.int x1), some (.int x2), some (.int x3), some (.int x4), some (.int x5), some (.int (x1 + x5))]) (st' := [.int (gI s 0 13), .int (x1 + x5)]) (s' := s) rfl ?_
        refine wpc_icmp (a := 44) (b := 41) rfl (by decide) rfl rfl (wpc_br (p := (x1 + x5) < (gI s 0 13)) ⟨fun hc361 => ?_, fun hc361 => ?_⟩)
        · have h362 := h360.1 hc361
          refine wpc_sl (n := 4) (c' := 10) (pc' := 51) (ls' := [some (.ref 0), some (.int x1), some (.int x2), some (.int x3), some (.int x4), some (.int x5), some (.int (x1 + x5))]) (st' := [.int (x1 + x5), .ref 2, .int x3]) (s' := s) rfl ?_
          refine wpc_ldaI (a := 1) (N := 128) (v := (gI s 2 (ix (x1 + x5)))) rfl rfl (by decide) h362.1 rfl ?_
          have h364 := h362.2
          refine wpc_sl (n := 12) (c' := 10) (pc' := 8) (ls' := [some (.ref 0), some (.int x1), some (.int x2), some (.int ((x3 + (gI s 2 (ix (x1 + x5)))) &&& (65535 : Int32))), some (.int ((x4 + ((x3 + (gI s 2 (ix (x1 + x5)))) &&& (65535 : Int32))) &&& (65535 : Int32))), some (.int (x5 + (1 : Int32))), some (.int (x1 + x5))]) (st' := []) (s' := s) rfl ?_
          exact wpc_lle (ls := [some (.ref 0), some (.int x1), some (.int x2), some (.int ((x3 + (gI s 2 (ix (x1 + x5)))) &&& (65535 : Int32))), some (.int ((x4 + ((x3 + (gI s 2 (ix (x1 + x5)))) &&& (65535 : Int32))) &&& (65535 : Int32))), some (.int (x5 + (1 : Int32))), none]) ⟨rfl, rfl, rfl, rfl, rfl, rfl, trivial⟩ h364
        · have h363 := h360.2 hc361
          refine wpc_sl (n := 1) (c' := 10) (pc' := 72) (ls' := [some (.ref 0), some (.int x1), some (.int x2), some (.int x3), some (.int x4), some (.int x5), some (.int (x1 + x5))]) (st' := []) (s' := s) rfl ?_
          exact wpc_lle (ls := [some (.ref 0), none, none, some (.int x3), some (.int x4), none, none]) ⟨rfl, rfl, rfl, trivial⟩ h363
    · have h357 := h353.2 hc355
      exact wpc_lle (ls := [some (.ref 0), none, none, some (.int x3), some (.int x4), none, none]) ⟨rfl, rfl, rfl, trivial⟩ h357
  · have h354 := h.2 hc352
    exact wpc_lle (ls := [some (.ref 0), none, none, some (.int x3), some (.int x4), none, none]) ⟨rfl, rfl, rfl, trivial⟩ h354
theorem c26_72 (x3 : Int32) (x4 : Int32) (s : St) (Q : St → Prop) (h : Q (sI (sI s 0 29 x3) 0 30 x4)) : wpcV PP 26 cm26 10 72 [some (.ref 0), none, none, some (.int x3), some (.int x4), none, none] [] s Q := by
  refine wpc_sl (n := 6) (c' := 10) (pc' := 83) (ls' := [some (.ref 0), none, none, some (.int x3), some (.int x4), none, none]) (st' := []) (s' := (sI (sI s 0 29 x3) 0 30 x4)) rfl ?_
  exact wpc_ret rfl rfl (fun q => absurd q (by decide)) rfl ⟨rfl, h⟩
theorem c33_in (a1 : Int32) (s : St) (Q : St → Prop) (h : (((gI s 0 25) < (128 : Int32)) → inb 128 (gI s 0 25) ∧ Q (sI (sI s 9 (ix (gI s 0 25)) a1) 0 25 ((gI s 0 25) + (1 : Int32)))) ∧ (¬ ((gI s 0 25) < (128 : Int32)) → Q s)) : calV PP 33 10 [.ref 0, .int a1] s Q := by
  refine cal_of (me := cm33) (ls := [some (.ref 0), some (.int a1)]) rfl (Nat.le_of_ble_eq_true rfl) rfl ?_
  refine wpc_sl (n := 3) (c' := 10) (pc' := 7) (ls' := [some (.ref 0), some (.int a1)]) (st' := [.int (128 : Int32), .int (gI s 0 25)]) (s' := s) rfl ?_
  refine wpc_icmp (a := 30) (b := 10) rfl (by decide) rfl rfl (wpc_br (p := (gI s 0 25) < (128 : Int32)) ⟨fun hc365 => ?_, fun hc365 => ?_⟩)
  · have h366 := h.1 hc365
    refine wpc_sl (n := 5) (c' := 10) (pc' := 19) (ls' := [some (.ref 0), some (.int a1)]) (st' := [.int a1, .int (gI s 0 25), .ref 9]) (s' := s) rfl ?_
    refine wpc_staI (a := 8) (N := 128) (s' := (sI s 9 (ix (gI s 0 25)) a1)) rfl rfl (by decide) h366.1 rfl ?_
    have h368 := h366.2
    refine wpc_sl (n := 6) (c' := 10) (pc' := 30) (ls' := [some (.ref 0), some (.int a1)]) (st' := []) (s' := (sI (sI s 9 (ix (gI s 0 25)) a1) 0 25 ((gI s 0 25) + (1 : Int32)))) rfl ?_
    exact wpc_ret rfl rfl (fun q => absurd q (by decide)) rfl ⟨rfl, h368⟩
  · have h367 := h.2 hc365
    exact wpc_ret rfl rfl (fun q => absurd q (by decide)) rfl ⟨rfl, h367⟩
theorem c28_in (a1 : Int32) (s : St) (Q : St → Prop) (h : ((a1 < (0 : Int32)) → Q s) ∧ (¬ (a1 < (0 : Int32)) → (((a1 + (gI s 0 9)) < (gI s 0 13)) → inb 128 a1 ∧ inb 128 (a1 + (gI s 0 9)) ∧ Q (sI (sI s 0 29 ((((gI s 0 29) - (gI s 2 (ix a1))) + (gI s 2 (ix (a1 + (gI s 0 9))))) &&& (65535 : Int32))) 0 30 ((((gI s 0 30) - ((gI s 0 9) * (gI s 2 (ix a1)))) + ((((gI s 0 29) - (gI s 2 (ix a1))) + (gI s 2 (ix (a1 + (gI s 0 9))))) &&& (65535 : Int32))) &&& (65535 : Int32)))) ∧ (¬ ((a1 + (gI s 0 9)) < (gI s 0 13)) → Q s))) : calV PP 28 10 [.ref 0, .int a1] s Q := by
  refine cal_of (me := cm28) (ls := [some (.ref 0), some (.int a1), none, none, none]) rfl (Nat.le_of_ble_eq_true rfl) rfl ?_
  refine wpc_sl (n := 6) (c' := 10) (pc' := 8) (ls' := [some (.ref 0), some (.int a1), some (.int (a1 + (gI s 0 9))), none, none]) (st' := [.int a1]) (s' := s) rfl ?_
  refine wpc_if (a := 19) (b := 11) rfl (by decide) rfl rfl (wpc_br (p := a1 < (0 : Int32)) ⟨fun hc369 => ?_, fun hc369 => ?_⟩)
  · have h370 := h.1 hc369
    exact wpc_ret rfl rfl (fun q => absurd q (by decide)) rfl ⟨rfl, h370⟩
  · have h371 := h.2 hc369
    refine wpc_sl (n := 3) (c' := 10) (pc' := 16) (ls' := [some (.ref 0), some (.int a1), some (.int (a1 + (gI s 0 9))), none, none]) (st' := [.int (gI s 0 13), .int (a1 + (gI s 0 9))]) (s' := s) rfl ?_
    refine wpc_icmp (a := 20) (b := 19) rfl (by decide) rfl rfl (wpc_br (p := (a1 + (gI s 0 9)) < (gI s 0 13)) ⟨fun hc372 => ?_, fun hc372 => ?_⟩)
    · have h373 := h371.1 hc372
      refine wpc_sl (n := 3) (c' := 10) (pc' := 25) (ls' := [some (.ref 0), some (.int a1), some (.int (a1 + (gI s 0 9))), none, none]) (st' := [.int a1, .ref 2]) (s' := s) rfl ?_
      refine wpc_ldaI (a := 1) (N := 128) (v := (gI s 2 (ix a1))) rfl rfl (by decide) h373.1 rfl ?_
      have h375 := h373.2
      refine wpc_sl (n := 4) (c' := 10) (pc' := 32) (ls' := [some (.ref 0), some (.int a1), some (.int (a1 + (gI s 0 9))), some (.int (gI s 2 (ix a1))), none]) (st' := [.int (a1 + (gI s 0 9)), .ref 2]) (s' := s) rfl ?_
      refine wpc_ldaI (a := 1) (N := 128) (v := (gI s 2 (ix (a1 + (gI s 0 9))))) rfl rfl (by decide) h375.1 rfl ?_
      have h376 := h375.2
      refine wpc_sl (n := 25) (c' := 10) (pc' := 74) (ls' := [some (.ref 0), some (.int a1), some (.int (a1 + (gI s 0 9))), some (.int (gI s 2 (ix a1))), some (.int (gI s 2 (ix (a1 + (gI s 0 9)))))]) (st' := []) (s' := (sI (sI s 0 29 ((((gI s 0 29) - (gI s 2 (ix a1))) + (gI s 2 (ix (a1 + (gI s 0 9))))) &&& (65535 : Int32))) 0 30 ((((gI s 0 30) - ((gI s 0 9) * (gI s 2 (ix a1)))) + ((((gI s 0 29) - (gI s 2 (ix a1))) + (gI s 2 (ix (a1 + (gI s 0 9))))) &&& (65535 : Int32))) &&& (65535 : Int32)))) rfl ?_
      exact wpc_ret rfl rfl (fun q => absurd q (by decide)) rfl ⟨rfl, h376⟩
    · have h374 := h371.2 hc372
      exact wpc_ret rfl rfl (fun q => absurd q (by decide)) rfl ⟨rfl, h374⟩
theorem c32_in (a1 : Int32) (a2 : Int32) (s : St) (Q : St → Prop) (h : (((gI s 0 23) < (128 : Int32)) → inb 128 (gI s 0 23) ∧ inb 128 (gI s 0 23) ∧ Q (sI (sI (sI s 7 (ix (gI s 0 23)) a1) 8 (ix (gI s 0 23)) a2) 0 23 ((gI s 0 23) + (1 : Int32)))) ∧ (¬ ((gI s 0 23) < (128 : Int32)) → Q s)) : calV PP 32 10 [.ref 0, .int a1, .int a2] s Q := by
  refine cal_of (me := cm32) (ls := [some (.ref 0), some (.int a1), some (.int a2)]) rfl (Nat.le_of_ble_eq_true rfl) rfl ?_
  refine wpc_sl (n := 3) (c' := 10) (pc' := 7) (ls' := [some (.ref 0), some (.int a1), some (.int a2)]) (st' := [.int (128 : Int32), .int (gI s 0 23)]) (s' := s) rfl ?_
  refine wpc_icmp (a := 40) (b := 10) rfl (by decide) rfl rfl (wpc_br (p := (gI s 0 23) < (128 : Int32)) ⟨fun hc377 => ?_, fun hc377 => ?_⟩)
  · have h378 := h.1 hc377
    refine wpc_sl (n := 5) (c' := 10) (pc' := 19) (ls' := [some (.ref 0), some (.int a1), some (.int a2)]) (st' := [.int a1, .int (gI s 0 23), .ref 7]) (s' := s) rfl ?_
    refine wpc_staI (a := 6) (N := 128) (s' := (sI s 7 (ix (gI s 0 23)) a1)) rfl rfl (by decide) h378.1 rfl ?_
    have h380 := h378.2
    refine wpc_sl (n := 5) (c' := 10) (pc' := 29) (ls' := [some (.ref 0), some (.int a1), some (.int a2)]) (st' := [.int a2, .int (gI s 0 23), .ref 8]) (s' := (sI s 7 (ix (gI s 0 23)) a1)) rfl ?_
    refine wpc_staI (a := 7) (N := 128) (s' := (sI (sI s 7 (ix (gI s 0 23)) a1) 8 (ix (gI s 0 23)) a2)) rfl rfl (by decide) h380.1 rfl ?_
    have h381 := h380.2
    refine wpc_sl (n := 6) (c' := 10) (pc' := 40) (ls' := [some (.ref 0), some (.int a1), some (.int a2)]) (st' := []) (s' := (sI (sI (sI s 7 (ix (gI s 0 23)) a1) 8 (ix (gI s 0 23)) a2) 0 23 ((gI s 0 23) + (1 : Int32)))) rfl ?_
    exact wpc_ret rfl rfl (fun q => absurd q (by decide)) rfl ⟨rfl, h381⟩
  · have h379 := h.2 hc377
    exact wpc_ret rfl rfl (fun q => absurd q (by decide)) rfl ⟨rfl, h379⟩
theorem c27_in (a1 : Int32) (a2 : Int32) (s : St) (Q : Int32 → St → Prop) (h : wpcI PP 27 cm27 10 6 [some (.ref 0), some (.int a1), some (.int a2), some (.int (-2128831035 : Int32)), some (.int (0 : Int32)), none] [] s Q) : calI PP 27 10 [.ref 0, .int a1, .int a2] s Q := by
  refine cal_of (me := cm27) (ls := [some (.ref 0), some (.int a1), some (.int a2), none, none, none]) rfl (Nat.le_of_ble_eq_true rfl) rfl ?_
  refine wpc_sl (n := 4) (c' := 10) (pc' := 6) (ls' := [some (.ref 0), some (.int a1), some (.int a2), some (.int (-2128831035 : Int32)), some (.int (0 : Int32)), none]) (st' := []) (s' := s) rfl ?_
  exact h
theorem c27_6 (x1 : Int32) (x2 : Int32) (x3 : Int32) (x4 : Int32) (s : St) (Q : Int32 → St → Prop) (h : ((x4 < x2) → ((x4 < (16 : Int32)) → (((x1 + x4) < (0 : Int32)) → Q x3 s) ∧ (¬ ((x1 + x4) < (0 : Int32)) → (((x1 + x4) < (gI s 0 13)) → inb 128 (x1 + x4) ∧ wpcI PP 27 cm27 10 6 [some (.ref 0), some (.int x1), some (.int x2), some (.int ((x3 ^^^ (gI s 2 (ix (x1 + x4)))) * (16777619 : Int32))), some (.int (x4 + (1 : Int32))), none] [] s Q) ∧ (¬ ((x1 + x4) < (gI s 0 13)) → Q x3 s))) ∧ (¬ (x4 < (16 : Int32)) → Q x3 s)) ∧ (¬ (x4 < x2) → Q x3 s)) : wpcI PP 27 cm27 10 6 [some (.ref 0), some (.int x1), some (.int x2), some (.int x3), some (.int x4), none] [] s Q := by
  refine wpc_sl (n := 2) (c' := 10) (pc' := 9) (ls' := [some (.ref 0), some (.int x1), some (.int x2), some (.int x3), some (.int x4), none]) (st' := [.int x2, .int x4]) (s' := s) rfl ?_
  refine wpc_icmp (a := 61) (b := 12) rfl (by decide) rfl rfl (wpc_br (p := x4 < x2) ⟨fun hc416 => ?_, fun hc416 => ?_⟩)
  · have h417 := h.1 hc416
    refine wpc_sl (n := 2) (c' := 10) (pc' := 16) (ls' := [some (.ref 0), some (.int x1), some (.int x2), some (.int x3), some (.int x4), none]) (st' := [.int (16 : Int32), .int x4]) (s' := s) rfl ?_
    refine wpc_icmp (a := 61) (b := 19) rfl (by decide) rfl rfl (wpc_br (p := x4 < (16 : Int32)) ⟨fun hc419 => ?_, fun hc419 => ?_⟩)
    · have h420 := h417.1 hc419
      refine wpc_sl (n := 5) (c' := 10) (pc' := 27) (ls' := [some (.ref 0), some (.int x1), some (.int x2), some (.int x3), some (.int x4), some (.int (x1 + x4))]) (st' := [.int (x1 + x4)]) (s' := s) rfl ?_
      refine wpc_if (a := 61) (b := 30) rfl (by decide) rfl rfl (wpc_br (p := (x1 + x4) < (0 : Int32)) ⟨fun hc422 => ?_, fun hc422 => ?_⟩)
      · have h423 := h420.1 hc422
        refine wpc_sl (n := 1) (c' := 10) (pc' := 62) (ls' := [some (.ref 0), some (.int x1), some (.int x2), some (.int x3), some (.int x4), some (.int (x1 + x4))]) (st' := [.int x3]) (s' := s) rfl ?_
        exact wpc_ret rfl rfl (fun q => absurd q (by decide)) rfl ⟨x3, rfl, h423⟩
      · have h424 := h420.2 hc422
        refine wpc_sl (n := 3) (c' := 10) (pc' := 36) (ls' := [some (.ref 0), some (.int x1), some (.int x2), some (.int x3), some (.int x4), some (.int (x1 + x4))]) (st' := [.int (gI s 0 13), .int (x1 + x4)]) (s' := s) rfl ?_
        refine wpc_icmp (a := 42) (b := 39) rfl (by decide) rfl rfl (wpc_br (p := (x1 + x4) < (gI s 0 13)) ⟨fun hc425 => ?_, fun hc425 => ?_⟩)
        · have h426 := h424.1 hc425
          refine wpc_sl (n := 4) (c' := 10) (pc' := 49) (ls' := [some (.ref 0), some (.int x1), some (.int x2), some (.int x3), some (.int x4), some (.int (x1 + x4))]) (st' := [.int (x1 + x4), .ref 2, .int x3]) (s' := s) rfl ?_
          refine wpc_ldaI (a := 1) (N := 128) (v := (gI s 2 (ix (x1 + x4)))) rfl rfl (by decide) h426.1 rfl ?_
          have h428 := h426.2
          refine wpc_sl (n := 6) (c' := 10) (pc' := 6) (ls' := [some (.ref 0), some (.int x1), some (.int x2), some (.int ((x3 ^^^ (gI s 2 (ix (x1 + x4)))) * (16777619 : Int32))), some (.int (x4 + (1 : Int32))), some (.int (x1 + x4))]) (st' := []) (s' := s) rfl ?_
          exact wpc_lle (ls := [some (.ref 0), some (.int x1), some (.int x2), some (.int ((x3 ^^^ (gI s 2 (ix (x1 + x4)))) * (16777619 : Int32))), some (.int (x4 + (1 : Int32))), none]) ⟨rfl, rfl, rfl, rfl, rfl, trivial⟩ h428
        · have h427 := h424.2 hc425
          refine wpc_sl (n := 2) (c' := 10) (pc' := 62) (ls' := [some (.ref 0), some (.int x1), some (.int x2), some (.int x3), some (.int x4), some (.int (x1 + x4))]) (st' := [.int x3]) (s' := s) rfl ?_
          exact wpc_ret rfl rfl (fun q => absurd q (by decide)) rfl ⟨x3, rfl, h427⟩
    · have h421 := h417.2 hc419
      refine wpc_sl (n := 1) (c' := 10) (pc' := 62) (ls' := [some (.ref 0), some (.int x1), some (.int x2), some (.int x3), some (.int x4), none]) (st' := [.int x3]) (s' := s) rfl ?_
      exact wpc_ret rfl rfl (fun q => absurd q (by decide)) rfl ⟨x3, rfl, h421⟩
  · have h418 := h.2 hc416
    refine wpc_sl (n := 1) (c' := 10) (pc' := 62) (ls' := [some (.ref 0), some (.int x1), some (.int x2), some (.int x3), some (.int x4), none]) (st' := [.int x3]) (s' := s) rfl ?_
    exact wpc_ret rfl rfl (fun q => absurd q (by decide)) rfl ⟨x3, rfl, h418⟩
theorem c30_in (a1 : Int32) (s : St) (Q : Int32 → St → Prop) (h : calI PP 24 10 [.ref 0, .int (gI s 0 29), .int (gI s 0 30)] s (fun v383 s382 => inb 64 v383 ∧ wpcI PP 30 cm30 10 40 [some (.ref 0), some (.int a1), some (.int ((gI s 0 29) + ((gI s 0 30) * (65536 : Int32)))), some (.int (gI s382 5 (ix v383))), some (.int (0 : Int32)), some (.int (0 : Int32)), some (.int (0 : Int32))] [] s382 Q)) : calI PP 30 10 [.ref 0, .int a1] s Q := by
  refine cal_of (me := cm30) (ls := [some (.ref 0), some (.int a1), none, none, none, none, none]) rfl (Nat.le_of_ble_eq_true rfl) rfl ?_
  refine wpc_sl (n := 15) (c' := 10) (pc' := 26) (ls' := [some (.ref 0), some (.int a1), some (.int ((gI s 0 29) + ((gI s 0 30) * (65536 : Int32)))), none, none, none, none]) (st' := [.int (gI s 0 30), .int (gI s 0 29), .ref 0, .ref 5]) (s' := s) rfl ?_
  refine wpc_callI (m' := 24) (me' := cm24) (as := [.int (gI s 0 29), .int (gI s 0 30)]) (r := [.ref 5]) rfl rfl rfl rfl rfl ⟨by decide, (by first | decide | exact Nat.le_of_ble_eq_true rfl), (by first | decide | exact Nat.le_of_ble_eq_true rfl), rfl⟩ (calI.mono h fun v383 s382 h384 => ?_)
  refine wpc_ldaI (a := 4) (N := 64) (v := (gI s382 5 (ix v383))) rfl rfl (by decide) h384.1 rfl ?_
  have h385 := h384.2
  refine wpc_sl (n := 7) (c' := 10) (pc' := 40) (ls' := [some (.ref 0), some (.int a1), some (.int ((gI s 0 29) + ((gI s 0 30) * (65536 : Int32)))), some (.int (gI s382 5 (ix v383))), some (.int (0 : Int32)), some (.int (0 : Int32)), some (.int (0 : Int32))]) (st' := []) (s' := s382) rfl ?_
  exact h385
theorem c30_40 (x1 : Int32) (x2 : Int32) (x3 : Int32) (x4 : Int32) (x5 : Int32) (x6 : Int32) (s : St) (Q : Int32 → St → Prop) (h : ((x6 < (64 : Int32)) → ((x3 < (0 : Int32)) → Q (-1 : Int32) s) ∧ (¬ (x3 < (0 : Int32)) → ((x3 < (64 : Int32)) → inb 64 x3 ∧ (((gI s 3 (ix x3)) = x2) → ((x4 = (0 : Int32)) → calI PP 27 10 [.ref 0, .int x1, .int (gI s 0 9)] s (fun v403 s402 => wpcI PP 30 cm30 10 86 [some (.ref 0), some (.int x1), some (.int x2), some (.int x3), some (.int (1 : Int32)), some (.int v403), some (.int x6)] [] s402 Q)) ∧ (¬ (x4 = (0 : Int32)) → wpcI PP 30 cm30 10 86 [some (.ref 0), some (.int x1), some (.int x2), some (.int x3), some (.int x4), some (.int x5), some (.int x6)] [] s Q)) ∧ (¬ ((gI s 3 (ix x3)) = x2) → wpcI PP 30 cm30 10 112 [some (.ref 0), some (.int x1), some (.int x2), some (.int x3), some (.int x4), some (.int x5), some (.int x6)] [] s Q)) ∧ (¬ (x3 < (64 : Int32)) → Q (-1 : Int32) s))) ∧ (¬ (x6 < (64 : Int32)) → Q (-1 : Int32) s)) : wpcI PP 30 cm30 10 40 [some (.ref 0), some (.int x1), some (.int x2), some (.int x3), some (.int x4), some (.int x5), some (.int x6)] [] s Q := by
  refine wpc_sl (n := 2) (c' := 10) (pc' := 44) (ls' := [some (.ref 0), some (.int x1), some (.int x2), some (.int x3), some (.int x4), some (.int x5), some (.int x6)]) (st' := [.int (64 : Int32), .int x6]) (s' := s) rfl ?_
  refine wpc_icmp (a := 125) (b := 47) rfl (by decide) rfl rfl (wpc_br (p := x6 < (64 : Int32)) ⟨fun hc386 => ?_, fun hc386 => ?_⟩)
  · have h387 := h.1 hc386
    refine wpc_sl (n := 1) (c' := 10) (pc' := 48) (ls' := [some (.ref 0), some (.int x1), some (.int x2), some (.int x3), some (.int x4), some (.int x5), some (.int x6)]) (st' := [.int x3]) (s' := s) rfl ?_
    refine wpc_if (a := 125) (b := 51) rfl (by decide) rfl rfl (wpc_br (p := x3 < (0 : Int32)) ⟨fun hc389 => ?_, fun hc389 => ?_⟩)
    · have h390 := h387.1 hc389
      refine wpc_sl (n := 1) (c' := 10) (pc' := 126) (ls' := [some (.ref 0), some (.int x1), some (.int x2), some (.int x3), some (.int x4), some (.int x5), some (.int x6)]) (st' := [.int (-1 : Int32)]) (s' := s) rfl ?_
      exact wpc_ret rfl rfl (fun q => absurd q (by decide)) rfl ⟨(-1 : Int32), rfl, h390⟩
    · have h391 := h387.2 hc389
      refine wpc_sl (n := 2) (c' := 10) (pc' := 54) (ls' := [some (.ref 0), some (.int x1), some (.int x2), some (.int x3), some (.int x4), some (.int x5), some (.int x6)]) (st' := [.int (64 : Int32), .int x3]) (s' := s) rfl ?_
      refine wpc_icmp (a := 125) (b := 57) rfl (by decide) rfl rfl (wpc_br (p := x3 < (64 : Int32)) ⟨fun hc392 => ?_, fun hc392 => ?_⟩)
      · have h393 := h391.1 hc392
        refine wpc_sl (n := 3) (c' := 10) (pc' := 62) (ls' := [some (.ref 0), some (.int x1), some (.int x2), some (.int x3), some (.int x4), some (.int x5), some (.int x6)]) (st' := [.int x3, .ref 3]) (s' := s) rfl ?_
        refine wpc_ldaI (a := 2) (N := 64) (v := (gI s 3 (ix x3))) rfl rfl (by decide) h393.1 rfl ?_
        have h395 := h393.2
        refine wpc_sl (n := 1) (c' := 10) (pc' := 64) (ls' := [some (.ref 0), some (.int x1), some (.int x2), some (.int x3), some (.int x4), some (.int x5), some (.int x6)]) (st' := [.int x2, .int (gI s 3 (ix x3))]) (s' := s) rfl ?_
        refine wpc_icmp (a := 112) (b := 67) rfl (by decide) rfl rfl (wpc_br (p := (gI s 3 (ix x3)) = x2) ⟨fun hc396 => ?_, fun hc396 => ?_⟩)
        · have h397 := h395.1 hc396
          refine wpc_sl (n := 1) (c' := 10) (pc' := 69) (ls' := [some (.ref 0), some (.int x1), some (.int x2), some (.int x3), some (.int x4), some (.int x5), some (.int x6)]) (st' := [.int x4]) (s' := s) rfl ?_
          refine wpc_if (a := 86) (b := 72) rfl (by decide) rfl rfl (wpc_br (p := x4 = (0 : Int32)) ⟨fun hc399 => ?_, fun hc399 => ?_⟩)
          · have h400 := h397.1 hc399
            refine wpc_sl (n := 4) (c' := 10) (pc' := 78) (ls' := [some (.ref 0), some (.int x1), some (.int x2), some (.int x3), some (.int x4), some (.int x5), some (.int x6)]) (st' := [.int (gI s 0 9), .int x1, .ref 0]) (s' := s) rfl ?_
            refine wpc_callI (m' := 27) (me' := cm27) (as := [.int x1, .int (gI s 0 9)]) (r := []) rfl rfl rfl rfl rfl ⟨by decide, (by first | decide | exact Nat.le_of_ble_eq_true rfl), (by first | decide | exact Nat.le_of_ble_eq_true rfl), rfl⟩ (calI.mono h400 fun v403 s402 h404 => ?_)
            refine wpc_sl (n := 3) (c' := 10) (pc' := 86) (ls' := [some (.ref 0), some (.int x1), some (.int x2), some (.int x3), some (.int (1 : Int32)), some (.int v403), some (.int x6)]) (st' := []) (s' := s402) rfl ?_
            exact h404
          · have h401 := h397.2 hc399
            exact h401
        · have h398 := h395.2 hc396
          exact h398
      · have h394 := h391.2 hc392
        refine wpc_sl (n := 1) (c' := 10) (pc' := 126) (ls' := [some (.ref 0), some (.int x1), some (.int x2), some (.int x3), some (.int x4), some (.int x5), some (.int x6)]) (st' := [.int (-1 : Int32)]) (s' := s) rfl ?_
        exact wpc_ret rfl rfl (fun q => absurd q (by decide)) rfl ⟨(-1 : Int32), rfl, h394⟩
  · have h388 := h.2 hc386
    refine wpc_sl (n := 1) (c' := 10) (pc' := 126) (ls' := [some (.ref 0), some (.int x1), some (.int x2), some (.int x3), some (.int x4), some (.int x5), some (.int x6)]) (st' := [.int (-1 : Int32)]) (s' := s) rfl ?_
    exact wpc_ret rfl rfl (fun q => absurd q (by decide)) rfl ⟨(-1 : Int32), rfl, h388⟩
theorem c30_86 (x1 : Int32) (x2 : Int32) (x3 : Int32) (x4 : Int32) (x5 : Int32) (x6 : Int32) (s : St) (Q : Int32 → St → Prop) (h : inb 64 x3 ∧ (((gI s 4 (ix x3)) = x5) → calI PP 29 10 [.ref 0, .int x3, .int x1, .int (gI s 0 9)] s (fun v410 s409 => ((v410 = (0 : Int32)) → wpcI PP 30 cm30 10 112 [some (.ref 0), some (.int x1), some (.int x2), some (.int x3), some (.int x4), some (.int x5), some (.int x6)] [] s409 Q) ∧ (¬ (v410 = (0 : Int32)) → Q x3 s409))) ∧ (¬ ((gI s 4 (ix x3)) = x5) → wpcI PP 30 cm30 10 112 [some (.ref 0), some (.int x1), some (.int x2), some (.int x3), some (.int x4), some (.int x5), some (.int x6)] [] s Q)) : wpcI PP 30 cm30 10 86 [some (.ref 0), some (.int x1), some (.int x2), some (.int x3), some (.int x4), some (.int x5), some (.int x6)] [] s Q := by
  refine wpc_sl (n := 3) (c' := 10) (pc' := 91) (ls' := [some (.ref 0), some (.int x1), some (.int x2), some (.int x3), some (.int x4), some (.int x5), some (.int x6)]) (st' := [.int x3, .ref 4]) (s' := s) rfl ?_
  refine wpc_ldaI (a := 3) (N := 64) (v := (gI s 4 (ix x3))) rfl rfl (by decide) h.1 rfl ?_
  have h405 := h.2
  refine wpc_sl (n := 1) (c' := 10) (pc' := 94) (ls' := [some (.ref 0), some (.int x1), some (.int x2), some (.int x3), some (.int x4), some (.int x5), some (.int x6)]) (st' := [.int x5, .int (gI s 4 (ix x3))]) (s' := s) rfl ?_
  refine wpc_icmp (a := 112) (b := 97) rfl (by decide) rfl rfl (wpc_br (p := (gI s 4 (ix x3)) = x5) ⟨fun hc406 => ?_, fun hc406 => ?_⟩)
  · have h407 := h405.1 hc406
    refine wpc_sl (n := 5) (c' := 10) (pc' := 104) (ls' := [some (.ref 0), some (.int x1), some (.int x2), some (.int x3), some (.int x4), some (.int x5), some (.int x6)]) (st' := [.int (gI s 0 9), .int x1, .int x3, .ref 0]) (s' := s) rfl ?_
    refine wpc_callI (m' := 29) (me' := cm29) (as := [.int x3, .int x1, .int (gI s 0 9)]) (r := []) rfl rfl rfl rfl rfl ⟨by decide, (by first | decide | exact Nat.le_of_ble_eq_true rfl), (by first | decide | exact Nat.le_of_ble_eq_true rfl), rfl⟩ (calI.mono h407 fun v410 s409 h411 => ?_)
    refine wpc_if (a := 112) (b := 110) rfl (by decide) rfl rfl (wpc_br (p := v410 = (0 : Int32)) ⟨fun hc412 => ?_, fun hc412 => ?_⟩)
    · have h413 := h411.1 hc412
      exact h413
    · have h414 := h411.2 hc412
      refine wpc_sl (n := 1) (c' := 10) (pc' := 111) (ls' := [some (.ref 0), some (.int x1), some (.int x2), some (.int x3), some (.int x4), some (.int x5), some (.int x6)]) (st' := [.int x3]) (s' := s409) rfl ?_
      exact wpc_ret rfl rfl (fun q => absurd q (by decide)) rfl ⟨x3, rfl, h414⟩
  · have h408 := h405.2 hc406
    exact h408
theorem c30_112 (x1 : Int32) (x2 : Int32) (x3 : Int32) (x4 : Int32) (x5 : Int32) (x6 : Int32) (s : St) (Q : Int32 → St → Prop) (h : inb 64 x3 ∧ wpcI PP 30 cm30 10 40 [some (.ref 0), some (.int x1), some (.int x2), some (.int (gI s 6 (ix x3))), some (.int x4), some (.int x5), some (.int (x6 + (1 : Int32)))] [] s Q) : wpcI PP 30 cm30 10 112 [some (.ref 0), some (.int x1), some (.int x2), some (.int x3), some (.int x4), some (.int x5), some (.int x6)] [] s Q := by
  refine wpc_sl (n := 3) (c' := 10) (pc' := 117) (ls' := [some (.ref 0), some (.int x1), some (.int x2), some (.int x3), some (.int x4), some (.int x5), some (.int x6)]) (st' := [.int x3, .ref 6]) (s' := s) rfl ?_
  refine wpc_ldaI (a := 5) (N := 64) (v := (gI s 6 (ix x3))) rfl rfl (by decide) h.1 rfl ?_
  have h415 := h.2
  refine wpc_sl (n := 3) (c' := 10) (pc' := 40) (ls' := [some (.ref 0), some (.int x1), some (.int x2), some (.int (gI s 6 (ix x3))), some (.int x4), some (.int x5), some (.int (x6 + (1 : Int32)))]) (st' := []) (s' := s) rfl ?_
  exact h415
theorem c34_in  (s : St) (Q : St → Prop) (h : wpcV PP 34 cm34 10 9 [some (.ref 0), some (.int (0 : Int32)), some (.int (0 : Int32)), some (.int (0 : Int32)), some (.int (0 : Int32)), none, none, none] [] s Q) : calV PP 34 10 [.ref 0] s Q := by
  refine cal_of (me := cm34) (ls := [some (.ref 0), none, none, none, none, none, none, none]) rfl (Nat.le_of_ble_eq_true rfl) rfl ?_
  refine wpc_sl (n := 8) (c' := 10) (pc' := 9) (ls' := [some (.ref 0), some (.int (0 : Int32)), some (.int (0 : Int32)), some (.int (0 : Int32)), some (.int (0 : Int32)), none, none, none]) (st' := []) (s' := s) rfl ?_
  exact h
theorem c34_9 (x1 : Int32) (x2 : Int32) (x3 : Int32) (x4 : Int32) (s : St) (Q : St → Prop) (h : ((x4 < (256 : Int32)) → ((x1 < (gI s 0 13)) → ∀ m264, m264 = (if ((gI s 0 13) - x1) < (gI s 0 9) then ((gI s 0 13) - x1) else (gI s 0 9)) → (((((gI s 0 13) - x1) < (gI s 0 9)) → calI PP 31 10 [.ref 0, .int x1, .int ((gI s 0 13) - x1)] s (fun v271 s270 => wpcV PP 34 cm34 10 96 [some (.ref 0), some (.int x1), some (.int x2), some (.int x3), some (.int x4), none, some (.int m264), some (.int v271)] [] s270 Q)) ∧ (¬ (((gI s 0 13) - x1) < (gI s 0 9)) → ((x3 = (0 : Int32)) → calV PP 26 10 [.ref 0, .int x1, .int (gI s 0 9)] s (fun s276 => wpcV PP 34 cm34 10 77 [some (.ref 0), some (.int x1), some (.int x2), some (.int (1 : Int32)), some (.int x4), none, some (.int m264), none] [] s276 Q)) ∧ (¬ (x3 = (0 : Int32)) → wpcV PP 34 cm34 10 77 [some (.ref 0), some (.int x1), some (.int x2), some (.int x3), some (.int x4), none, some (.int m264), none] [] s Q)))) ∧ (¬ (x1 < (gI s 0 13)) → wpcV PP 34 cm34 10 179 [some (.ref 0), none, some (.int x2), none, none, none, none, none] [] s Q)) ∧ (¬ (x4 < (256 : Int32)) → wpcV PP 34 cm34 10 179 [some (.ref 0), none, some (.int x2), none, none, none, none, none] [] s Q)) : wpcV PP 34 cm34 10 9 [some (.ref 0), some (.int x1), some (.int x2), some (.int x3), some (.int x4), none, none, none] [] s Q := by
  refine wpc_sl (n := 2) (c' := 10) (pc' := 14) (ls' := [some (.ref 0), some (.int x1), some (.int x2), some (.int x3), some (.int x4), none, none, none]) (st' := [.int (256 : Int32), .int x4]) (s' := s) rfl ?_
  refine wpc_icmp (a := 179) (b := 17) rfl (by decide) rfl rfl (wpc_br (p := x4 < (256 : Int32)) ⟨fun hc258 => ?_, fun hc258 => ?_⟩)
  · have h259 := h.1 hc258
    refine wpc_sl (n := 3) (c' := 10) (pc' := 22) (ls' := [some (.ref 0), some (.int x1), some (.int x2), some (.int x3), some (.int x4), none, none, none]) (st' := [.int (gI s 0 13), .int x1]) (s' := s) rfl ?_
    refine wpc_icmp (a := 179) (b := 25) rfl (by decide) rfl rfl (wpc_br (p := x1 < (gI s 0 13)) ⟨fun hc261 => ?_, fun hc261 => ?_⟩)
    · have h262 := h259.1 hc261
      refine wpc_sl (n := 8) (c' := 10) (pc' := 39) (ls' := [some (.ref 0), some (.int x1), some (.int x2), some (.int x3), some (.int x4), some (.int ((gI s 0 13) - x1)), none, none]) (st' := [.int (gI s 0 9), .int ((gI s 0 13) - x1)]) (s' := s) rfl ?_
      have hm265 : ∀ m264, m264 = (if ((gI s 0 13) - x1) < (gI s 0 9) then ((gI s 0 13) - x1) else (gI s 0 9)) → wpcV PP 34 cm34 10 51 [some (.ref 0), some (.int x1), some (.int x2), some (.int x3), some (.int x4), some (.int ((gI s 0 13) - x1)), none, none] [.int m264] s Q := by
        intro m264 em264
        have h266 := h262 m264 em264
        refine wpc_sl (n := 4) (c' := 10) (pc' := 59) (ls' := [some (.ref 0), some (.int x1), some (.int x2), some (.int x3), some (.int x4), some (.int ((gI s 0 13) - x1)), some (.int m264), none]) (st' := [.int (gI s 0 9), .int ((gI s 0 13) - x1)]) (s' := s) rfl ?_
        refine wpc_icmp (a := 87) (b := 62) rfl (by decide) rfl rfl (wpc_br (p := ((gI s 0 13) - x1) < (gI s 0 9)) ⟨fun hc267 => ?_, fun hc267 => ?_⟩)
        · have h268 := h266.1 hc267
          refine wpc_sl (n := 3) (c' := 10) (pc' := 91) (ls' := [some (.ref 0), some (.int x1), some (.int x2), some (.int x3), some (.int x4), some (.int ((gI s 0 13) - x1)), some (.int m264), none]) (st' := [.int ((gI s 0 13) - x1), .int x1, .ref 0]) (s' := s) rfl ?_
          refine wpc_callI (m' := 31) (me' := cm31) (as := [.int x1, .int ((gI s 0 13) - x1)]) (r := []) rfl rfl rfl rfl rfl ⟨by decide, (by first | decide | exact Nat.le_of_ble_eq_true rfl), (by first | decide | exact Nat.le_of_ble_eq_true rfl), rfl⟩ (calI.mono h268 fun v271 s270 h272 => ?_)
          refine wpc_sl (n := 1) (c' := 10) (pc' := 96) (ls' := [some (.ref 0), some (.int x1), some (.int x2), some (.int x3), some (.int x4), some (.int ((gI s 0 13) - x1)), some (.int m264), some (.int v271)]) (st' := []) (s' := s270) rfl ?_
          exact wpc_lle (ls := [some (.ref 0), some (.int x1), some (.int x2), some (.int x3), some (.int x4), none, some (.int m264), some (.int v271)]) ⟨rfl, rfl, rfl, rfl, rfl, rfl, rfl, trivial⟩ h272
        · have h269 := h266.2 hc267
          refine wpc_sl (n := 1) (c' := 10) (pc' := 63) (ls' := [some (.ref 0), some (.int x1), some (.int x2), some (.int x3), some (.int x4), some (.int ((gI s 0 13) - x1)), some (.int m264), none]) (st' := [.int x3]) (s' := s) rfl ?_
          refine wpc_if (a := 77) (b := 66) rfl (by decide) rfl rfl (wpc_br (p := x3 = (0 : Int32)) ⟨fun hc273 => ?_, fun hc273 => ?_⟩)
          · have h274 := h269.1 hc273
            refine wpc_sl (n := 4) (c' := 10) (pc' := 72) (ls' := [some (.ref 0), some (.int x1), some (.int x2), some (.int x3), some (.int x4), some (.int ((gI s 0 13) - x1)), some (.int m264), none]) (st' := [.int (gI s 0 9), .int x1, .ref 0]) (s' := s) rfl ?_
            refine wpc_callV (m' := 26) (me' := cm26) (as := [.int x1, .int (gI s 0 9)]) (r := []) rfl rfl rfl rfl rfl ⟨by decide, (by first | decide | exact Nat.le_of_ble_eq_true rfl), (by first | decide | exact Nat.le_of_ble_eq_true rfl), rfl⟩ (calV.mono h274 fun s276 h278 => ?_)
            refine wpc_sl (n := 2) (c' := 10) (pc' := 77) (ls' := [some (.ref 0), some (.int x1), some (.int x2), some (.int (1 : Int32)), some (.int x4), some (.int ((gI s 0 13) - x1)), some (.int m264), none]) (st' := []) (s' := s276) rfl ?_
            exact wpc_lle (ls := [some (.ref 0), some (.int x1), some (.int x2), some (.int (1 : Int32)), some (.int x4), none, some (.int m264), none]) ⟨rfl, rfl, rfl, rfl, rfl, rfl, trivial⟩ h278
          · have h275 := h269.2 hc273
            exact wpc_lle (ls := [some (.ref 0), some (.int x1), some (.int x2), some (.int x3), some (.int x4), none, some (.int m264), none]) ⟨rfl, rfl, rfl, rfl, rfl, rfl, trivial⟩ h275
      refine wpc_icmp (a := 47) (b := 42) rfl (by decide) rfl rfl (wpc_br (p := ((gI s 0 13) - x1) < (gI s 0 9)) ⟨fun hc279 => ?_, fun hc279 => ?_⟩)
      · refine wpc_sl (n := 2) (c' := 10) (pc' := 51) (ls' := [some (.ref 0), some (.int x1), some (.int x2), some (.int x3), some (.int x4), some (.int ((gI s 0 13) - x1)), none, none]) (st' := [.int ((gI s 0 13) - x1)]) (s' := s) rfl ?_
        first | exact hm265 _ (by simp only [if_pos hc279]) | exact wpc_lle (by repeat (first | exact trivial | refine ⟨rfl, ?_⟩)) (hm265 _ (by simp only [if_pos hc279]))
      · refine wpc_sl (n := 2) (c' := 10) (pc' := 51) (ls' := [some (.ref 0), some (.int x1), some (.int x2), some (.int x3), some (.int x4), some (.int ((gI s 0 13) - x1)), none, none]) (st' := [.int (gI s 0 9)]) (s' := s) rfl ?_
        first | exact hm265 _ (by simp only [if_neg hc279]) | exact wpc_lle (by repeat (first | exact trivial | refine ⟨rfl, ?_⟩)) (hm265 _ (by simp only [if_neg hc279]))
    · have h263 := h259.2 hc261
      exact wpc_lle (ls := [some (.ref 0), none, some (.int x2), none, none, none, none, none]) ⟨rfl, rfl, trivial⟩ h263
  · have h260 := h.2 hc258
    exact wpc_lle (ls := [some (.ref 0), none, some (.int x2), none, none, none, none, none]) ⟨rfl, rfl, trivial⟩ h260
theorem c34_96 (x1 : Int32) (x2 : Int32) (x3 : Int32) (x4 : Int32) (x6 : Int32) (x7 : Int32) (s : St) (Q : St → Prop) (h : ((x7 < (0 : Int32)) → inb 128 x1 ∧ calV PP 33 10 [.ref 0, .int (gI s 2 (ix x1))] s (fun s284 => ((x3 = (0 : Int32)) → wpcV PP 34 cm34 10 168 [some (.ref 0), some (.int x1), some (.int (x2 + (1 : Int32))), none, some (.int x4), none, none, none] [] s284 Q) ∧ (¬ (x3 = (0 : Int32)) → (((x1 + (gI s284 0 9)) < (gI s284 0 13)) → calV PP 28 10 [.ref 0, .int x1] s284 (fun s293 => wpcV PP 34 cm34 10 170 [some (.ref 0), some (.int x1), some (.int (x2 + (1 : Int32))), some (.int x3), some (.int x4), none, none, none] [] s293 Q)) ∧ (¬ ((x1 + (gI s284 0 9)) < (gI s284 0 13)) → wpcV PP 34 cm34 10 168 [some (.ref 0), some (.int x1), some (.int (x2 + (1 : Int32))), none, some (.int x4), none, none, none] [] s284 Q)))) ∧ (¬ (x7 < (0 : Int32)) → (((0 : Int32) < x2) → calV PP 32 10 [.ref 0, .int (2 : Int32), .int x2] s (fun s299 => wpcV PP 34 cm34 10 113 [some (.ref 0), some (.int x1), some (.int (0 : Int32)), none, some (.int x4), none, some (.int x6), some (.int x7)] [] s299 Q)) ∧ (¬ ((0 : Int32) < x2) → wpcV PP 34 cm34 10 113 [some (.ref 0), some (.int x1), some (.int x2), none, some (.int x4), none, some (.int x6), some (.int x7)] [] s Q))) : wpcV PP 34 cm34 10 96 [some (.ref 0), some (.int x1), some (.int x2), some (.int x3), some (.int x4), none, some (.int x6), some (.int x7)] [] s Q := by
  refine wpc_sl (n := 1) (c' := 10) (pc' := 98) (ls' := [some (.ref 0), some (.int x1), some (.int x2), some (.int x3), some (.int x4), none, some (.int x6), some (.int x7)]) (st' := [.int x7]) (s' := s) rfl ?_
  refine wpc_if (a := 130) (b := 101) rfl (by decide) rfl rfl (wpc_br (p := x7 < (0 : Int32)) ⟨fun hc280 => ?_, fun hc280 => ?_⟩)
  · have h281 := h.1 hc280
    refine wpc_sl (n := 4) (c' := 10) (pc' := 136) (ls' := [some (.ref 0), some (.int x1), some (.int x2), some (.int x3), some (.int x4), none, some (.int x6), some (.int x7)]) (st' := [.int x1, .ref 2, .ref 0]) (s' := s) rfl ?_
    refine wpc_ldaI (a := 1) (N := 128) (v := (gI s 2 (ix x1))) rfl rfl (by decide) h281.1 rfl ?_
    have h283 := h281.2
    refine wpc_callV (m' := 33) (me' := cm33) (as := [.int (gI s 2 (ix x1))]) (r := []) rfl rfl rfl rfl rfl ⟨by decide, (by first | decide | exact Nat.le_of_ble_eq_true rfl), (by first | decide | exact Nat.le_of_ble_eq_true rfl), rfl⟩ (calV.mono h283 fun s284 h286 => ?_)
    refine wpc_sl (n := 2) (c' := 10) (pc' := 144) (ls' := [some (.ref 0), some (.int x1), some (.int (x2 + (1 : Int32))), some (.int x3), some (.int x4), none, some (.int x6), some (.int x7)]) (st' := [.int x3]) (s' := s284) rfl ?_
    refine wpc_if (a := 168) (b := 147) rfl (by decide) rfl rfl (wpc_br (p := x3 = (0 : Int32)) ⟨fun hc287 => ?_, fun hc287 => ?_⟩)
    · have h288 := h286.1 hc287
      exact wpc_lle (ls := [some (.ref 0), some (.int x1), some (.int (x2 + (1 : Int32))), none, some (.int x4), none, none, none]) ⟨rfl, rfl, rfl, rfl, trivial⟩ h288
    · have h289 := h286.2 hc287
      refine wpc_sl (n := 6) (c' := 10) (pc' := 157) (ls' := [some (.ref 0), some (.int x1), some (.int (x2 + (1 : Int32))), some (.int x3), some (.int x4), none, some (.int x6), some (.int x7)]) (st' := [.int (gI s284 0 13), .int (x1 + (gI s284 0 9))]) (s' := s284) rfl ?_
      refine wpc_icmp (a := 168) (b := 160) rfl (by decide) rfl rfl (wpc_br (p := (x1 + (gI s284 0 9)) < (gI s284 0 13)) ⟨fun hc290 => ?_, fun hc290 => ?_⟩)
      · have h291 := h289.1 hc290
        refine wpc_sl (n := 2) (c' := 10) (pc' := 162) (ls' := [some (.ref 0), some (.int x1), some (.int (x2 + (1 : Int32))), some (.int x3), some (.int x4), none, some (.int x6), some (.int x7)]) (st' := [.int x1, .ref 0]) (s' := s284) rfl ?_
        refine wpc_callV (m' := 28) (me' := cm28) (as := [.int x1]) (r := []) rfl rfl rfl rfl rfl ⟨by decide, (by first | decide | exact Nat.le_of_ble_eq_true rfl), (by first | decide | exact Nat.le_of_ble_eq_true rfl), rfl⟩ (calV.mono h291 fun s293 h295 => ?_)
        refine wpc_sl (n := 1) (c' := 10) (pc' := 170) (ls' := [some (.ref 0), some (.int x1), some (.int (x2 + (1 : Int32))), some (.int x3), some (.int x4), none, some (.int x6), some (.int x7)]) (st' := []) (s' := s293) rfl ?_
        exact wpc_lle (ls := [some (.ref 0), some (.int x1), some (.int (x2 + (1 : Int32))), some (.int x3), some (.int x4), none, none, none]) ⟨rfl, rfl, rfl, rfl, rfl, trivial⟩ h295
      · have h292 := h289.2 hc290
        exact wpc_lle (ls := [some (.ref 0), some (.int x1), some (.int (x2 + (1 : Int32))), none, some (.int x4), none, none, none]) ⟨rfl, rfl, rfl, rfl, trivial⟩ h292
  · have h282 := h.2 hc280
    refine wpc_sl (n := 1) (c' := 10) (pc' := 102) (ls' := [some (.ref 0), some (.int x1), some (.int x2), some (.int x3), some (.int x4), none, some (.int x6), some (.int x7)]) (st' := [.int x2]) (s' := s) rfl ?_
    refine wpc_if (a := 113) (b := 105) rfl (by decide) rfl rfl (wpc_br (p := (0 : Int32) < x2) ⟨fun hc296 => ?_, fun hc296 => ?_⟩)
    · have h297 := h282.1 hc296
      refine wpc_sl (n := 3) (c' := 10) (pc' := 108) (ls' := [some (.ref 0), some (.int x1), some (.int x2), some (.int x3), some (.int x4), none, some (.int x6), some (.int x7)]) (st' := [.int x2, .int (2 : Int32), .ref 0]) (s' := s) rfl ?_
      refine wpc_callV (m' := 32) (me' := cm32) (as := [.int (2 : Int32), .int x2]) (r := []) rfl rfl rfl rfl rfl ⟨by decide, (by first | decide | exact Nat.le_of_ble_eq_true rfl), (by first | decide | exact Nat.le_of_ble_eq_true rfl), rfl⟩ (calV.mono h297 fun s299 h301 => ?_)
      refine wpc_sl (n := 2) (c' := 10) (pc' := 113) (ls' := [some (.ref 0), some (.int x1), some (.int (0 : Int32)), some (.int x3), some (.int x4), none, some (.int x6), some (.int x7)]) (st' := []) (s' := s299) rfl ?_
      exact wpc_lle (ls := [some (.ref 0), some (.int x1), some (.int (0 : Int32)), none, some (.int x4), none, some (.int x6), some (.int x7)]) ⟨rfl, rfl, rfl, rfl, rfl, rfl, trivial⟩ h301
    · have h298 := h282.2 hc296
      exact wpc_lle (ls := [some (.ref 0), some (.int x1), some (.int x2), none, some (.int x4), none, some (.int x6), some (.int x7)]) ⟨rfl, rfl, rfl, rfl, rfl, rfl, trivial⟩ h298
theorem c34_77 (x1 : Int32) (x2 : Int32) (x3 : Int32) (x4 : Int32) (x6 : Int32) (s : St) (Q : St → Prop) (h : calI PP 30 10 [.ref 0, .int x1] s (fun v303 s302 => wpcV PP 34 cm34 10 96 [some (.ref 0), some (.int x1), some (.int x2), some (.int x3), some (.int x4), none, some (.int x6), some (.int v303)] [] s302 Q)) : wpcV PP 34 cm34 10 77 [some (.ref 0), some (.int x1), some (.int x2), some (.int x3), some (.int x4), none, some (.int x6), none] [] s Q := by
  refine wpc_sl (n := 2) (c' := 10) (pc' := 79) (ls' := [some (.ref 0), some (.int x1), some (.int x2), some (.int x3), some (.int x4), none, some (.int x6), none]) (st' := [.int x1, .ref 0]) (s' := s) rfl ?_
  refine wpc_callI (m' := 30) (me' := cm30) (as := [.int x1]) (r := []) rfl rfl rfl rfl rfl ⟨by decide, (by first | decide | exact Nat.le_of_ble_eq_true rfl), (by first | decide | exact Nat.le_of_ble_eq_true rfl), rfl⟩ (calI.mono h fun v303 s302 h304 => ?_)
  refine wpc_sl (n := 2) (c' := 10) (pc' := 96) (ls' := [some (.ref 0), some (.int x1), some (.int x2), some (.int x3), some (.int x4), none, some (.int x6), some (.int v303)]) (st' := []) (s' := s302) rfl ?_
  exact h304
theorem c34_179 (x2 : Int32) (s : St) (Q : St → Prop) (h : (((0 : Int32) < x2) → calV PP 32 10 [.ref 0, .int (2 : Int32), .int x2] s (fun s308 => Q s308)) ∧ (¬ ((0 : Int32) < x2) → Q s)) : wpcV PP 34 cm34 10 179 [some (.ref 0), none, some (.int x2), none, none, none, none, none] [] s Q := by
  refine wpc_sl (n := 1) (c' := 10) (pc' := 180) (ls' := [some (.ref 0), none, some (.int x2), none, none, none, none, none]) (st' := [.int x2]) (s' := s) rfl ?_
  refine wpc_if (a := 189) (b := 183) rfl (by decide) rfl rfl (wpc_br (p := (0 : Int32) < x2) ⟨fun hc305 => ?_, fun hc305 => ?_⟩)
  · have h306 := h.1 hc305
    refine wpc_sl (n := 3) (c' := 10) (pc' := 186) (ls' := [some (.ref 0), none, some (.int x2), none, none, none, none, none]) (st' := [.int x2, .int (2 : Int32), .ref 0]) (s' := s) rfl ?_
    refine wpc_callV (m' := 32) (me' := cm32) (as := [.int (2 : Int32), .int x2]) (r := []) rfl rfl rfl rfl rfl ⟨by decide, (by first | decide | exact Nat.le_of_ble_eq_true rfl), (by first | decide | exact Nat.le_of_ble_eq_true rfl), rfl⟩ (calV.mono h306 fun s308 h310 => ?_)
    exact wpc_ret rfl rfl (fun q => absurd q (by decide)) rfl ⟨rfl, h310⟩
  · have h307 := h.2 hc305
    exact wpc_ret rfl rfl (fun q => absurd q (by decide)) rfl ⟨rfl, h307⟩
theorem c34_168 (x1 : Int32) (x2 : Int32) (x4 : Int32) (s : St) (Q : St → Prop) (h : wpcV PP 34 cm34 10 170 [some (.ref 0), some (.int x1), some (.int x2), some (.int (0 : Int32)), some (.int x4), none, none, none] [] s Q) : wpcV PP 34 cm34 10 168 [some (.ref 0), some (.int x1), some (.int x2), none, some (.int x4), none, none, none] [] s Q := by
  refine wpc_sl (n := 2) (c' := 10) (pc' := 170) (ls' := [some (.ref 0), some (.int x1), some (.int x2), some (.int (0 : Int32)), some (.int x4), none, none, none]) (st' := []) (s' := s) rfl ?_
  exact h
theorem c34_170 (x1 : Int32) (x2 : Int32) (x3 : Int32) (x4 : Int32) (s : St) (Q : St → Prop) (h : wpcV PP 34 cm34 10 173 [some (.ref 0), some (.int (x1 + (1 : Int32))), some (.int x2), some (.int x3), some (.int x4), none, none, none] [] s Q) : wpcV PP 34 cm34 10 170 [some (.ref 0), some (.int x1), some (.int x2), some (.int x3), some (.int x4), none, none, none] [] s Q := by
  refine wpc_sl (n := 1) (c' := 10) (pc' := 173) (ls' := [some (.ref 0), some (.int (x1 + (1 : Int32))), some (.int x2), some (.int x3), some (.int x4), none, none, none]) (st' := []) (s' := s) rfl ?_
  exact h
theorem c34_113 (x1 : Int32) (x2 : Int32) (x4 : Int32) (x6 : Int32) (x7 : Int32) (s : St) (Q : St → Prop) (h : calV PP 32 10 [.ref 0, .int (1 : Int32), .int x7] s (fun s311 => wpcV PP 34 cm34 10 173 [some (.ref 0), some (.int (x1 + x6)), some (.int x2), some (.int (0 : Int32)), some (.int x4), none, none, none] [] s311 Q)) : wpcV PP 34 cm34 10 113 [some (.ref 0), some (.int x1), some (.int x2), none, some (.int x4), none, some (.int x6), some (.int x7)] [] s Q := by
  refine wpc_sl (n := 3) (c' := 10) (pc' := 117) (ls' := [some (.ref 0), some (.int x1), some (.int x2), none, some (.int x4), none, some (.int x6), some (.int x7)]) (st' := [.int x7, .int (1 : Int32), .ref 0]) (s' := s) rfl ?_
  refine wpc_callV (m' := 32) (me' := cm32) (as := [.int (1 : Int32), .int x7]) (r := []) rfl rfl rfl rfl rfl ⟨by decide, (by first | decide | exact Nat.le_of_ble_eq_true rfl), (by first | decide | exact Nat.le_of_ble_eq_true rfl), rfl⟩ (calV.mono h fun s311 h313 => ?_)
  refine wpc_sl (n := 7) (c' := 10) (pc' := 173) (ls' := [some (.ref 0), some (.int (x1 + x6)), some (.int x2), some (.int (0 : Int32)), some (.int x4), none, some (.int x6), some (.int x7)]) (st' := []) (s' := s311) rfl ?_
  exact wpc_lle (ls := [some (.ref 0), some (.int (x1 + x6)), some (.int x2), some (.int (0 : Int32)), some (.int x4), none, none, none]) ⟨rfl, rfl, rfl, rfl, rfl, trivial⟩ h313
theorem c34_173 (x1 : Int32) (x2 : Int32) (x3 : Int32) (x4 : Int32) (s : St) (Q : St → Prop) (h : wpcV PP 34 cm34 10 9 [some (.ref 0), some (.int x1), some (.int x2), some (.int x3), some (.int (x4 + (1 : Int32))), none, none, none] [] s Q) : wpcV PP 34 cm34 10 173 [some (.ref 0), some (.int x1), some (.int x2), some (.int x3), some (.int x4), none, none, none] [] s Q := by
  refine wpc_sl (n := 2) (c' := 10) (pc' := 9) (ls' := [some (.ref 0), some (.int x1), some (.int x2), some (.int x3), some (.int (x4 + (1 : Int32))), none, none, none]) (st' := []) (s' := s) rfl ?_
  exact h
theorem c6_in  (s : St) (Q : Int32 → St → Prop) (h : (((gI s 0 14) = (0 : Int32)) → Q (-1 : Int32) s) ∧ (¬ ((gI s 0 14) = (0 : Int32)) → calV PP 18 10 [.ref 0] s (fun s249 => calV PP 19 10 [.ref 0] s249 (fun s252 => calV PP 34 10 [.ref 0] s252 (fun s255 => Q (gI s255 0 23) (sI s255 0 20 (1 : Int32))))))) : calI PP 6 10 [.ref 0] s Q := by
  refine cal_of (me := cm6) (ls := [some (.ref 0)]) rfl (Nat.le_of_ble_eq_true rfl) rfl ?_
  refine wpc_sl (n := 2) (c' := 10) (pc' := 4) (ls' := [some (.ref 0)]) (st' := [.int (gI s 0 14)]) (s' := s) rfl ?_
  refine wpc_if (a := 9) (b := 7) rfl (by decide) rfl rfl (wpc_br (p := (gI s 0 14) = (0 : Int32)) ⟨fun hc246 => ?_, fun hc246 => ?_⟩)
  · have h247 := h.1 hc246
    refine wpc_sl (n := 1) (c' := 10) (pc' := 8) (ls' := [some (.ref 0)]) (st' := [.int (-1 : Int32)]) (s' := s) rfl ?_
    exact wpc_ret rfl rfl (fun q => absurd q (by decide)) rfl ⟨(-1 : Int32), rfl, h247⟩
  · have h248 := h.2 hc246
    refine wpc_sl (n := 1) (c' := 10) (pc' := 10) (ls' := [some (.ref 0)]) (st' := [.ref 0]) (s' := s) rfl ?_
    refine wpc_callV (m' := 18) (me' := cm18) (as := []) (r := []) rfl rfl rfl rfl rfl ⟨by decide, (by first | decide | exact Nat.le_of_ble_eq_true rfl), (by first | decide | exact Nat.le_of_ble_eq_true rfl), rfl⟩ (calV.mono h248 fun s249 h251 => ?_)
    refine wpc_sl (n := 1) (c' := 10) (pc' := 14) (ls' := [some (.ref 0)]) (st' := [.ref 0]) (s' := s249) rfl ?_
    refine wpc_callV (m' := 19) (me' := cm19) (as := []) (r := []) rfl rfl rfl rfl rfl ⟨by decide, (by first | decide | exact Nat.le_of_ble_eq_true rfl), (by first | decide | exact Nat.le_of_ble_eq_true rfl), rfl⟩ (calV.mono h251 fun s252 h254 => ?_)
    refine wpc_sl (n := 1) (c' := 10) (pc' := 18) (ls' := [some (.ref 0)]) (st' := [.ref 0]) (s' := s252) rfl ?_
    refine wpc_callV (m' := 34) (me' := cm34) (as := []) (r := []) rfl rfl rfl rfl rfl ⟨by decide, (by first | decide | exact Nat.le_of_ble_eq_true rfl), (by first | decide | exact Nat.le_of_ble_eq_true rfl), rfl⟩ (calV.mono h254 fun s255 h257 => ?_)
    refine wpc_sl (n := 5) (c' := 10) (pc' := 30) (ls' := [some (.ref 0)]) (st' := [.int (gI s255 0 23)]) (s' := (sI s255 0 20 (1 : Int32))) rfl ?_
    exact wpc_ret rfl rfl (fun q => absurd q (by decide)) rfl ⟨(gI s255 0 23), rfl, h257⟩
theorem c21_in (a1 : Int32) (s : St) (Q : Int32 → St → Prop) (h : (((gI s 0 20) = (0 : Int32)) → Q (0 : Int32) s) ∧ (¬ ((gI s 0 20) = (0 : Int32)) → ((a1 < (0 : Int32)) → Q (0 : Int32) s) ∧ (¬ (a1 < (0 : Int32)) → ((a1 < (gI s 0 23)) → ((a1 < (128 : Int32)) → Q (1 : Int32) s) ∧ (¬ (a1 < (128 : Int32)) → Q (0 : Int32) s)) ∧ (¬ (a1 < (gI s 0 23)) → Q (0 : Int32) s)))) : calI PP 21 10 [.ref 0, .int a1] s Q := by
  refine cal_of (me := cm21) (ls := [some (.ref 0), some (.int a1)]) rfl (Nat.le_of_ble_eq_true rfl) rfl ?_
  refine wpc_sl (n := 2) (c' := 10) (pc' := 4) (ls' := [some (.ref 0), some (.int a1)]) (st' := [.int (gI s 0 20)]) (s' := s) rfl ?_
  refine wpc_if (a := 30) (b := 7) rfl (by decide) rfl rfl (wpc_br (p := (gI s 0 20) = (0 : Int32)) ⟨fun hc436 => ?_, fun hc436 => ?_⟩)
  · have h437 := h.1 hc436
    refine wpc_sl (n := 1) (c' := 10) (pc' := 31) (ls' := [some (.ref 0), some (.int a1)]) (st' := [.int (0 : Int32)]) (s' := s) rfl ?_
    exact wpc_ret rfl rfl (fun q => absurd q (by decide)) rfl ⟨(0 : Int32), rfl, h437⟩
  · have h438 := h.2 hc436
    refine wpc_sl (n := 1) (c' := 10) (pc' := 8) (ls' := [some (.ref 0), some (.int a1)]) (st' := [.int a1]) (s' := s) rfl ?_
    refine wpc_if (a := 30) (b := 11) rfl (by decide) rfl rfl (wpc_br (p := a1 < (0 : Int32)) ⟨fun hc439 => ?_, fun hc439 => ?_⟩)
    · have h440 := h438.1 hc439
      refine wpc_sl (n := 1) (c' := 10) (pc' := 31) (ls' := [some (.ref 0), some (.int a1)]) (st' := [.int (0 : Int32)]) (s' := s) rfl ?_
      exact wpc_ret rfl rfl (fun q => absurd q (by decide)) rfl ⟨(0 : Int32), rfl, h440⟩
    · have h441 := h438.2 hc439
      refine wpc_sl (n := 3) (c' := 10) (pc' := 16) (ls' := [some (.ref 0), some (.int a1)]) (st' := [.int (gI s 0 23), .int a1]) (s' := s) rfl ?_
      refine wpc_icmp (a := 30) (b := 19) rfl (by decide) rfl rfl (wpc_br (p := a1 < (gI s 0 23)) ⟨fun hc442 => ?_, fun hc442 => ?_⟩)
      · have h443 := h441.1 hc442
        refine wpc_sl (n := 2) (c' := 10) (pc' := 23) (ls' := [some (.ref 0), some (.int a1)]) (st' := [.int (128 : Int32), .int a1]) (s' := s) rfl ?_
        refine wpc_icmp (a := 30) (b := 26) rfl (by decide) rfl rfl (wpc_br (p := a1 < (128 : Int32)) ⟨fun hc445 => ?_, fun hc445 => ?_⟩)
        · have h446 := h443.1 hc445
          refine wpc_sl (n := 2) (c' := 10) (pc' := 31) (ls' := [some (.ref 0), some (.int a1)]) (st' := [.int (1 : Int32)]) (s' := s) rfl ?_
          exact wpc_ret rfl rfl (fun q => absurd q (by decide)) rfl ⟨(1 : Int32), rfl, h446⟩
        · have h447 := h443.2 hc445
          refine wpc_sl (n := 1) (c' := 10) (pc' := 31) (ls' := [some (.ref 0), some (.int a1)]) (st' := [.int (0 : Int32)]) (s' := s) rfl ?_
          exact wpc_ret rfl rfl (fun q => absurd q (by decide)) rfl ⟨(0 : Int32), rfl, h447⟩
      · have h444 := h441.2 hc442
        refine wpc_sl (n := 1) (c' := 10) (pc' := 31) (ls' := [some (.ref 0), some (.int a1)]) (st' := [.int (0 : Int32)]) (s' := s) rfl ?_
        exact wpc_ret rfl rfl (fun q => absurd q (by decide)) rfl ⟨(0 : Int32), rfl, h444⟩
theorem c14_in (a1 : Int32) (s : St) (Q : Int32 → St → Prop) (h : calI PP 21 10 [.ref 0, .int a1] s (fun v430 s429 => ((v430 = (0 : Int32)) → Q (0 : Int32) s429) ∧ (¬ (v430 = (0 : Int32)) → inb 128 a1 ∧ Q (gI s429 7 (ix a1)) s429))) : calI PP 14 10 [.ref 0, .int a1] s Q := by
  refine cal_of (me := cm14) (ls := [some (.ref 0), some (.int a1)]) rfl (Nat.le_of_ble_eq_true rfl) rfl ?_
  refine wpc_sl (n := 2) (c' := 10) (pc' := 2) (ls' := [some (.ref 0), some (.int a1)]) (st' := [.int a1, .ref 0]) (s' := s) rfl ?_
  refine wpc_callI (m' := 21) (me' := cm21) (as := [.int a1]) (r := []) rfl rfl rfl rfl rfl ⟨by decide, (by first | decide | exact Nat.le_of_ble_eq_true rfl), (by first | decide | exact Nat.le_of_ble_eq_true rfl), rfl⟩ (calI.mono h fun v430 s429 h431 => ?_)
  refine wpc_if (a := 10) (b := 8) rfl (by decide) rfl rfl (wpc_br (p := v430 = (0 : Int32)) ⟨fun hc432 => ?_, fun hc432 => ?_⟩)
  · have h433 := h431.1 hc432
    refine wpc_sl (n := 1) (c' := 10) (pc' := 9) (ls' := [some (.ref 0), some (.int a1)]) (st' := [.int (0 : Int32)]) (s' := s429) rfl ?_
    exact wpc_ret rfl rfl (fun q => absurd q (by decide)) rfl ⟨(0 : Int32), rfl, h433⟩
  · have h434 := h431.2 hc432
    refine wpc_sl (n := 3) (c' := 10) (pc' := 15) (ls' := [some (.ref 0), some (.int a1)]) (st' := [.int a1, .ref 7]) (s' := s429) rfl ?_
    refine wpc_ldaI (a := 6) (N := 128) (v := (gI s429 7 (ix a1))) rfl rfl (by decide) h434.1 rfl ?_
    have h435 := h434.2
    exact wpc_ret rfl rfl (fun q => absurd q (by decide)) rfl ⟨(gI s429 7 (ix a1)), rfl, h435⟩
theorem c15_in (a1 : Int32) (s : St) (Q : Int32 → St → Prop) (h : calI PP 21 10 [.ref 0, .int a1] s (fun v449 s448 => ((v449 = (0 : Int32)) → Q (-1 : Int32) s448) ∧ (¬ (v449 = (0 : Int32)) → inb 128 a1 ∧ Q (gI s448 8 (ix a1)) s448))) : calI PP 15 10 [.ref 0, .int a1] s Q := by
  refine cal_of (me := cm15) (ls := [some (.ref 0), some (.int a1)]) rfl (Nat.le_of_ble_eq_true rfl) rfl ?_
  refine wpc_sl (n := 2) (c' := 10) (pc' := 2) (ls' := [some (.ref 0), some (.int a1)]) (st' := [.int a1, .ref 0]) (s' := s) rfl ?_
  refine wpc_callI (m' := 21) (me' := cm21) (as := [.int a1]) (r := []) rfl rfl rfl rfl rfl ⟨by decide, (by first | decide | exact Nat.le_of_ble_eq_true rfl), (by first | decide | exact Nat.le_of_ble_eq_true rfl), rfl⟩ (calI.mono h fun v449 s448 h450 => ?_)
  refine wpc_if (a := 10) (b := 8) rfl (by decide) rfl rfl (wpc_br (p := v449 = (0 : Int32)) ⟨fun hc451 => ?_, fun hc451 => ?_⟩)
  · have h452 := h450.1 hc451
    refine wpc_sl (n := 1) (c' := 10) (pc' := 9) (ls' := [some (.ref 0), some (.int a1)]) (st' := [.int (-1 : Int32)]) (s' := s448) rfl ?_
    exact wpc_ret rfl rfl (fun q => absurd q (by decide)) rfl ⟨(-1 : Int32), rfl, h452⟩
  · have h453 := h450.2 hc451
    refine wpc_sl (n := 3) (c' := 10) (pc' := 15) (ls' := [some (.ref 0), some (.int a1)]) (st' := [.int a1, .ref 8]) (s' := s448) rfl ?_
    refine wpc_ldaI (a := 7) (N := 128) (v := (gI s448 8 (ix a1))) rfl rfl (by decide) h453.1 rfl ?_
    have h454 := h453.2
    exact wpc_ret rfl rfl (fun q => absurd q (by decide)) rfl ⟨(gI s448 8 (ix a1)), rfl, h454⟩
theorem c35_in (a1 : Int32) (s : St) (Q : St → Prop) (h : ((a1 < (0 : Int32)) → Q s) ∧ (¬ (a1 < (0 : Int32)) → ((a1 < (gI s 0 15)) → calI PP 22 10 [.ref 0, .int a1] s (fun v483 s482 => wpcV PP 35 cm35 10 29 [some (.ref 0), none, some (.int (a1 * (gI s 0 9))), some (.int v483), some (.int (0 : Int32)), none] [] s482 Q)) ∧ (¬ (a1 < (gI s 0 15)) → Q s))) : calV PP 35 10 [.ref 0, .int a1] s Q := by
  refine cal_of (me := cm35) (ls := [some (.ref 0), some (.int a1), none, none, none, none]) rfl (Nat.le_of_ble_eq_true rfl) rfl ?_
  refine wpc_sl (n := 1) (c' := 10) (pc' := 1) (ls' := [some (.ref 0), some (.int a1), none, none, none, none]) (st' := [.int a1]) (s' := s) rfl ?_
  refine wpc_if (a := 12) (b := 4) rfl (by decide) rfl rfl (wpc_br (p := a1 < (0 : Int32)) ⟨fun hc476 => ?_, fun hc476 => ?_⟩)
  · have h477 := h.1 hc476
    exact wpc_ret rfl rfl (fun q => absurd q (by decide)) rfl ⟨rfl, h477⟩
  · have h478 := h.2 hc476
    refine wpc_sl (n := 3) (c' := 10) (pc' := 9) (ls' := [some (.ref 0), some (.int a1), none, none, none, none]) (st' := [.int (gI s 0 15), .int a1]) (s' := s) rfl ?_
    refine wpc_icmp (a := 13) (b := 12) rfl (by decide) rfl rfl (wpc_br (p := a1 < (gI s 0 15)) ⟨fun hc479 => ?_, fun hc479 => ?_⟩)
    · have h480 := h478.1 hc479
      refine wpc_sl (n := 7) (c' := 10) (pc' := 22) (ls' := [some (.ref 0), some (.int a1), some (.int (a1 * (gI s 0 9))), none, none, none]) (st' := [.int a1, .ref 0]) (s' := s) rfl ?_
      refine wpc_callI (m' := 22) (me' := cm22) (as := [.int a1]) (r := []) rfl rfl rfl rfl rfl ⟨by decide, (by first | decide | exact Nat.le_of_ble_eq_true rfl), (by first | decide | exact Nat.le_of_ble_eq_true rfl), rfl⟩ (calI.mono h480 fun v483 s482 h484 => ?_)
      refine wpc_sl (n := 3) (c' := 10) (pc' := 29) (ls' := [some (.ref 0), some (.int a1), some (.int (a1 * (gI s 0 9))), some (.int v483), some (.int (0 : Int32)), none]) (st' := []) (s' := s482) rfl ?_
      exact wpc_lle (ls := [some (.ref 0), none, some (.int (a1 * (gI s 0 9))), some (.int v483), some (.int (0 : Int32)), none]) ⟨rfl, rfl, rfl, rfl, trivial⟩ h484
    · have h481 := h478.2 hc479
      exact wpc_ret rfl rfl (fun q => absurd q (by decide)) rfl ⟨rfl, h481⟩
theorem c35_29 (x2 : Int32) (x3 : Int32) (x4 : Int32) (s : St) (Q : St → Prop) (h : ((x4 < x3) → ((x4 < (16 : Int32)) → (((x2 + x4) < (0 : Int32)) → wpcV PP 35 cm35 10 98 [some (.ref 0), none, some (.int x2), some (.int x3), some (.int x4), none] [] s Q) ∧ (¬ ((x2 + x4) < (0 : Int32)) → (((x2 + x4) < (gI s 0 11)) → (((gI s 0 28) < (128 : Int32)) → inb 128 (x2 + x4) ∧ inb 128 (gI s 0 28) ∧ wpcV PP 35 cm35 10 98 [some (.ref 0), none, some (.int x2), some (.int x3), some (.int x4), none] [] (sI (sI s 10 (ix (gI s 0 28)) (gI s 1 (ix (x2 + x4)))) 0 28 ((gI s 0 28) + (1 : Int32))) Q) ∧ (¬ ((gI s 0 28) < (128 : Int32)) → wpcV PP 35 cm35 10 98 [some (.ref 0), none, some (.int x2), some (.int x3), some (.int x4), none] [] s Q)) ∧ (¬ ((x2 + x4) < (gI s 0 11)) → wpcV PP 35 cm35 10 98 [some (.ref 0), none, some (.int x2), some (.int x3), some (.int x4), none] [] s Q))) ∧ (¬ (x4 < (16 : Int32)) → Q s)) ∧ (¬ (x4 < x3) → Q s)) : wpcV PP 35 cm35 10 29 [some (.ref 0), none, some (.int x2), some (.int x3), some (.int x4), none] [] s Q := by
  refine wpc_sl (n := 2) (c' := 10) (pc' := 32) (ls' := [some (.ref 0), none, some (.int x2), some (.int x3), some (.int x4), none]) (st' := [.int x3, .int x4]) (s' := s) rfl ?_
  refine wpc_icmp (a := 104) (b := 35) rfl (by decide) rfl rfl (wpc_br (p := x4 < x3) ⟨fun hc485 => ?_, fun hc485 => ?_⟩)
  · have h486 := h.1 hc485
    refine wpc_sl (n := 2) (c' := 10) (pc' := 39) (ls' := [some (.ref 0), none, some (.int x2), some (.int x3), some (.int x4), none]) (st' := [.int (16 : Int32), .int x4]) (s' := s) rfl ?_
    refine wpc_icmp (a := 104) (b := 42) rfl (by decide) rfl rfl (wpc_br (p := x4 < (16 : Int32)) ⟨fun hc488 => ?_, fun hc488 => ?_⟩)
    · have h489 := h486.1 hc488
      refine wpc_sl (n := 5) (c' := 10) (pc' := 50) (ls' := [some (.ref 0), none, some (.int x2), some (.int x3), some (.int x4), some (.int (x2 + x4))]) (st' := [.int (x2 + x4)]) (s' := s) rfl ?_
      refine wpc_if (a := 98) (b := 53) rfl (by decide) rfl rfl (wpc_br (p := (x2 + x4) < (0 : Int32)) ⟨fun hc491 => ?_, fun hc491 => ?_⟩)
      · have h492 := h489.1 hc491
        exact wpc_lle (ls := [some (.ref 0), none, some (.int x2), some (.int x3), some (.int x4), none]) ⟨rfl, rfl, rfl, rfl, trivial⟩ h492
      · have h493 := h489.2 hc491
        refine wpc_sl (n := 3) (c' := 10) (pc' := 59) (ls' := [some (.ref 0), none, some (.int x2), some (.int x3), some (.int x4), some (.int (x2 + x4))]) (st' := [.int (gI s 0 11), .int (x2 + x4)]) (s' := s) rfl ?_
        refine wpc_icmp (a := 98) (b := 62) rfl (by decide) rfl rfl (wpc_br (p := (x2 + x4) < (gI s 0 11)) ⟨fun hc494 => ?_, fun hc494 => ?_⟩)
        · have h495 := h493.1 hc494
          refine wpc_sl (n := 3) (c' := 10) (pc' := 69) (ls' := [some (.ref 0), none, some (.int x2), some (.int x3), some (.int x4), some (.int (x2 + x4))]) (st' := [.int (128 : Int32), .int (gI s 0 28)]) (s' := s) rfl ?_
          refine wpc_icmp (a := 98) (b := 72) rfl (by decide) rfl rfl (wpc_br (p := (gI s 0 28) < (128 : Int32)) ⟨fun hc497 => ?_, fun hc497 => ?_⟩)
          · have h498 := h495.1 hc497
            refine wpc_sl (n := 7) (c' := 10) (pc' := 86) (ls' := [some (.ref 0), none, some (.int x2), some (.int x3), some (.int x4), some (.int (x2 + x4))]) (st' := [.int (x2 + x4), .ref 1, .int (gI s 0 28), .ref 10]) (s' := s) rfl ?_
            refine wpc_ldaI (a := 0) (N := 128) (v := (gI s 1 (ix (x2 + x4)))) rfl rfl (by decide) h498.1 rfl ?_
            have h500 := h498.2
            refine wpc_staI (a := 9) (N := 128) (s' := (sI s 10 (ix (gI s 0 28)) (gI s 1 (ix (x2 + x4))))) rfl rfl (by decide) h500.1 rfl ?_
            have h501 := h500.2
            refine wpc_sl (n := 6) (c' := 10) (pc' := 98) (ls' := [some (.ref 0), none, some (.int x2), some (.int x3), some (.int x4), some (.int (x2 + x4))]) (st' := []) (s' := (sI (sI s 10 (ix (gI s 0 28)) (gI s 1 (ix (x2 + x4)))) 0 28 ((gI s 0 28) + (1 : Int32)))) rfl ?_
            exact wpc_lle (ls := [some (.ref 0), none, some (.int x2), some (.int x3), some (.int x4), none]) ⟨rfl, rfl, rfl, rfl, trivial⟩ h501
          · have h499 := h495.2 hc497
            exact wpc_lle (ls := [some (.ref 0), none, some (.int x2), some (.int x3), some (.int x4), none]) ⟨rfl, rfl, rfl, rfl, trivial⟩ h499
        · have h496 := h493.2 hc494
          exact wpc_lle (ls := [some (.ref 0), none, some (.int x2), some (.int x3), some (.int x4), none]) ⟨rfl, rfl, rfl, rfl, trivial⟩ h496
    · have h490 := h486.2 hc488
      exact wpc_ret rfl rfl (fun q => absurd q (by decide)) rfl ⟨rfl, h490⟩
  · have h487 := h.2 hc485
    exact wpc_ret rfl rfl (fun q => absurd q (by decide)) rfl ⟨rfl, h487⟩
theorem c35_98 (x2 : Int32) (x3 : Int32) (x4 : Int32) (s : St) (Q : St → Prop) (h : wpcV PP 35 cm35 10 29 [some (.ref 0), none, some (.int x2), some (.int x3), some (.int (x4 + (1 : Int32))), none] [] s Q) : wpcV PP 35 cm35 10 98 [some (.ref 0), none, some (.int x2), some (.int x3), some (.int x4), none] [] s Q := by
  refine wpc_sl (n := 2) (c' := 10) (pc' := 29) (ls' := [some (.ref 0), none, some (.int x2), some (.int x3), some (.int (x4 + (1 : Int32))), none]) (st' := []) (s' := s) rfl ?_
  exact h
theorem c36_in (a1 : Int32) (a2 : Int32) (s : St) (Q : Int32 → St → Prop) (h : wpcI PP 36 cm36 10 5 [some (.ref 0), none, some (.int a2), some (.int a1), some (.int (0 : Int32))] [] s Q) : calI PP 36 10 [.ref 0, .int a1, .int a2] s Q := by
  refine cal_of (me := cm36) (ls := [some (.ref 0), some (.int a1), some (.int a2), none, none]) rfl (Nat.le_of_ble_eq_true rfl) rfl ?_
  refine wpc_sl (n := 4) (c' := 10) (pc' := 5) (ls' := [some (.ref 0), some (.int a1), some (.int a2), some (.int a1), some (.int (0 : Int32))]) (st' := []) (s' := s) rfl ?_
  exact wpc_lle (ls := [some (.ref 0), none, some (.int a2), some (.int a1), some (.int (0 : Int32))]) ⟨rfl, rfl, rfl, rfl, trivial⟩ h
theorem c36_5 (x2 : Int32) (x3 : Int32) (x4 : Int32) (s : St) (Q : Int32 → St → Prop) (h : ((x4 < x2) → ((x4 < (128 : Int32)) → ((x3 < (0 : Int32)) → wpcI PP 36 cm36 10 66 [some (.ref 0), none, some (.int x2), some (.int x3), some (.int x4)] [] s Q) ∧ (¬ (x3 < (0 : Int32)) → ((x3 < (gI s 0 25)) → (((gI s 0 28) < (128 : Int32)) → inb 128 x3 ∧ inb 128 (gI s 0 28) ∧ wpcI PP 36 cm36 10 66 [some (.ref 0), none, some (.int x2), some (.int x3), some (.int x4)] [] (sI (sI s 10 (ix (gI s 0 28)) (gI s 9 (ix x3))) 0 28 ((gI s 0 28) + (1 : Int32))) Q) ∧ (¬ ((gI s 0 28) < (128 : Int32)) → wpcI PP 36 cm36 10 66 [some (.ref 0), none, some (.int x2), some (.int x3), some (.int x4)] [] s Q)) ∧ (¬ (x3 < (gI s 0 25)) → wpcI PP 36 cm36 10 66 [some (.ref 0), none, some (.int x2), some (.int x3), some (.int x4)] [] s Q))) ∧ (¬ (x4 < (128 : Int32)) → Q x3 s)) ∧ (¬ (x4 < x2) → Q x3 s)) : wpcI PP 36 cm36 10 5 [some (.ref 0), none, some (.int x2), some (.int x3), some (.int x4)] [] s Q := by
  refine wpc_sl (n := 2) (c' := 10) (pc' := 8) (ls' := [some (.ref 0), none, some (.int x2), some (.int x3), some (.int x4)]) (st' := [.int x2, .int x4]) (s' := s) rfl ?_
  refine wpc_icmp (a := 75) (b := 11) rfl (by decide) rfl rfl (wpc_br (p := x4 < x2) ⟨fun hc502 => ?_, fun hc502 => ?_⟩)
  · have h503 := h.1 hc502
    refine wpc_sl (n := 2) (c' := 10) (pc' := 16) (ls' := [some (.ref 0), none, some (.int x2), some (.int x3), some (.int x4)]) (st' := [.int (128 : Int32), .int x4]) (s' := s) rfl ?_
    refine wpc_icmp (a := 75) (b := 19) rfl (by decide) rfl rfl (wpc_br (p := x4 < (128 : Int32)) ⟨fun hc505 => ?_, fun hc505 => ?_⟩)
    · have h506 := h503.1 hc505
      refine wpc_sl (n := 1) (c' := 10) (pc' := 20) (ls' := [some (.ref 0), none, some (.int x2), some (.int x3), some (.int x4)]) (st' := [.int x3]) (s' := s) rfl ?_
      refine wpc_if (a := 66) (b := 23) rfl (by decide) rfl rfl (wpc_br (p := x3 < (0 : Int32)) ⟨fun hc508 => ?_, fun hc508 => ?_⟩)
      · have h509 := h506.1 hc508
        exact h509
      · have h510 := h506.2 hc508
        refine wpc_sl (n := 3) (c' := 10) (pc' := 28) (ls' := [some (.ref 0), none, some (.int x2), some (.int x3), some (.int x4)]) (st' := [.int (gI s 0 25), .int x3]) (s' := s) rfl ?_
        refine wpc_icmp (a := 66) (b := 31) rfl (by decide) rfl rfl (wpc_br (p := x3 < (gI s 0 25)) ⟨fun hc511 => ?_, fun hc511 => ?_⟩)
        · have h512 := h510.1 hc511
          refine wpc_sl (n := 3) (c' := 10) (pc' := 38) (ls' := [some (.ref 0), none, some (.int x2), some (.int x3), some (.int x4)]) (st' := [.int (128 : Int32), .int (gI s 0 28)]) (s' := s) rfl ?_
          refine wpc_icmp (a := 66) (b := 41) rfl (by decide) rfl rfl (wpc_br (p := (gI s 0 28) < (128 : Int32)) ⟨fun hc514 => ?_, fun hc514 => ?_⟩)
          · have h515 := h512.1 hc514
            refine wpc_sl (n := 7) (c' := 10) (pc' := 54) (ls' := [some (.ref 0), none, some (.int x2), some (.int x3), some (.int x4)]) (st' := [.int x3, .ref 9, .int (gI s 0 28), .ref 10]) (s' := s) rfl ?_
            refine wpc_ldaI (a := 8) (N := 128) (v := (gI s 9 (ix x3))) rfl rfl (by decide) h515.1 rfl ?_
            have h517 := h515.2
            refine wpc_staI (a := 9) (N := 128) (s' := (sI s 10 (ix (gI s 0 28)) (gI s 9 (ix x3)))) rfl rfl (by decide) h517.1 rfl ?_
            have h518 := h517.2
            refine wpc_sl (n := 6) (c' := 10) (pc' := 66) (ls' := [some (.ref 0), none, some (.int x2), some (.int x3), some (.int x4)]) (st' := []) (s' := (sI (sI s 10 (ix (gI s 0 28)) (gI s 9 (ix x3))) 0 28 ((gI s 0 28) + (1 : Int32)))) rfl ?_
            exact h518
          · have h516 := h512.2 hc514
            exact h516
        · have h513 := h510.2 hc511
          exact h513
    · have h507 := h503.2 hc505
      refine wpc_sl (n := 1) (c' := 10) (pc' := 76) (ls' := [some (.ref 0), none, some (.int x2), some (.int x3), some (.int x4)]) (st' := [.int x3]) (s' := s) rfl ?_
      exact wpc_ret rfl rfl (fun q => absurd q (by decide)) rfl ⟨x3, rfl, h507⟩
  · have h504 := h.2 hc502
    refine wpc_sl (n := 1) (c' := 10) (pc' := 76) (ls' := [some (.ref 0), none, some (.int x2), some (.int x3), some (.int x4)]) (st' := [.int x3]) (s' := s) rfl ?_
    exact wpc_ret rfl rfl (fun q => absurd q (by decide)) rfl ⟨x3, rfl, h504⟩
theorem c36_66 (x2 : Int32) (x3 : Int32) (x4 : Int32) (s : St) (Q : Int32 → St → Prop) (h : wpcI PP 36 cm36 10 5 [some (.ref 0), none, some (.int x2), some (.int (x3 + (1 : Int32))), some (.int (x4 + (1 : Int32)))] [] s Q) : wpcI PP 36 cm36 10 66 [some (.ref 0), none, some (.int x2), some (.int x3), some (.int x4)] [] s Q := by
  refine wpc_sl (n := 3) (c' := 10) (pc' := 5) (ls' := [some (.ref 0), none, some (.int x2), some (.int (x3 + (1 : Int32))), some (.int (x4 + (1 : Int32)))]) (st' := []) (s' := s) rfl ?_
  exact h
theorem c7_in  (s : St) (Q : Int32 → St → Prop) (h : (((gI s 0 20) = (0 : Int32)) → Q (-1 : Int32) s) ∧ (¬ ((gI s 0 20) = (0 : Int32)) → wpcI PP 7 cm7 10 18 [some (.ref 0), some (.int (0 : Int32)), some (.int (0 : Int32))] [] (sI s 0 28 (0 : Int32)) Q)) : calI PP 7 10 [.ref 0] s Q := by
  refine cal_of (me := cm7) (ls := [some (.ref 0), none, none]) rfl (Nat.le_of_ble_eq_true rfl) rfl ?_
  refine wpc_sl (n := 2) (c' := 10) (pc' := 4) (ls' := [some (.ref 0), none, none]) (st' := [.int (gI s 0 20)]) (s' := s) rfl ?_
  refine wpc_if (a := 9) (b := 7) rfl (by decide) rfl rfl (wpc_br (p := (gI s 0 20) = (0 : Int32)) ⟨fun hc455 => ?_, fun hc455 => ?_⟩)
  · have h456 := h.1 hc455
    refine wpc_sl (n := 1) (c' := 10) (pc' := 8) (ls' := [some (.ref 0), none, none]) (st' := [.int (-1 : Int32)]) (s' := s) rfl ?_
    exact wpc_ret rfl rfl (fun q => absurd q (by decide)) rfl ⟨(-1 : Int32), rfl, h456⟩
  · have h457 := h.2 hc455
    refine wpc_sl (n := 7) (c' := 10) (pc' := 18) (ls' := [some (.ref 0), some (.int (0 : Int32)), some (.int (0 : Int32))]) (st' := []) (s' := (sI s 0 28 (0 : Int32))) rfl ?_
    exact h457
theorem c7_18 (x1 : Int32) (x2 : Int32) (s : St) (Q : Int32 → St → Prop) (h : ((x2 < (gI s 0 23)) → ((x2 < (128 : Int32)) → inb 128 x2 ∧ (((gI s 7 (ix x2)) = (1 : Int32)) → inb 128 x2 ∧ calV PP 35 10 [.ref 0, .int (gI s 8 (ix x2))] s (fun s469 => wpcI PP 7 cm7 10 68 [some (.ref 0), some (.int x1), some (.int x2)] [] s469 Q)) ∧ (¬ ((gI s 7 (ix x2)) = (1 : Int32)) → inb 128 x2 ∧ calI PP 36 10 [.ref 0, .int x1, .int (gI s 8 (ix x2))] s (fun v474 s473 => wpcI PP 7 cm7 10 68 [some (.ref 0), some (.int v474), some (.int x2)] [] s473 Q))) ∧ (¬ (x2 < (128 : Int32)) → wpcI PP 7 cm7 10 74 [some (.ref 0), none, none] [] s Q)) ∧ (¬ (x2 < (gI s 0 23)) → wpcI PP 7 cm7 10 74 [some (.ref 0), none, none] [] s Q)) : wpcI PP 7 cm7 10 18 [some (.ref 0), some (.int x1), some (.int x2)] [] s Q := by
  refine wpc_sl (n := 3) (c' := 10) (pc' := 23) (ls' := [some (.ref 0), some (.int x1), some (.int x2)]) (st' := [.int (gI s 0 23), .int x2]) (s' := s) rfl ?_
  refine wpc_icmp (a := 74) (b := 26) rfl (by decide) rfl rfl (wpc_br (p := x2 < (gI s 0 23)) ⟨fun hc458 => ?_, fun hc458 => ?_⟩)
  · have h459 := h.1 hc458
    refine wpc_sl (n := 2) (c' := 10) (pc' := 30) (ls' := [some (.ref 0), some (.int x1), some (.int x2)]) (st' := [.int (128 : Int32), .int x2]) (s' := s) rfl ?_
    refine wpc_icmp (a := 74) (b := 33) rfl (by decide) rfl rfl (wpc_br (p := x2 < (128 : Int32)) ⟨fun hc461 => ?_, fun hc461 => ?_⟩)
    · have h462 := h459.1 hc461
      refine wpc_sl (n := 3) (c' := 10) (pc' := 38) (ls' := [some (.ref 0), some (.int x1), some (.int x2)]) (st' := [.int x2, .ref 7]) (s' := s) rfl ?_
      refine wpc_ldaI (a := 6) (N := 128) (v := (gI s 7 (ix x2))) rfl rfl (by decide) h462.1 rfl ?_
      have h464 := h462.2
      refine wpc_sl (n := 1) (c' := 10) (pc' := 40) (ls' := [some (.ref 0), some (.int x1), some (.int x2)]) (st' := [.int (1 : Int32), .int (gI s 7 (ix x2))]) (s' := s) rfl ?_
      refine wpc_icmp (a := 56) (b := 43) rfl (by decide) rfl rfl (wpc_br (p := (gI s 7 (ix x2)) = (1 : Int32)) ⟨fun hc465 => ?_, fun hc465 => ?_⟩)
      · have h466 := h464.1 hc465
        refine wpc_sl (n := 4) (c' := 10) (pc' := 49) (ls' := [some (.ref 0), some (.int x1), some (.int x2)]) (st' := [.int x2, .ref 8, .ref 0]) (s' := s) rfl ?_
        refine wpc_ldaI (a := 7) (N := 128) (v := (gI s 8 (ix x2))) rfl rfl (by decide) h466.1 rfl ?_
        have h468 := h466.2
        refine wpc_callV (m' := 35) (me' := cm35) (as := [.int (gI s 8 (ix x2))]) (r := []) rfl rfl rfl rfl rfl ⟨by decide, (by first | decide | exact Nat.le_of_ble_eq_true rfl), (by first | decide | exact Nat.le_of_ble_eq_true rfl), rfl⟩ (calV.mono h468 fun s469 h471 => ?_)
        refine wpc_sl (n := 1) (c' := 10) (pc' := 68) (ls' := [some (.ref 0), some (.int x1), some (.int x2)]) (st' := []) (s' := s469) rfl ?_
        exact h471
      · have h467 := h464.2 hc465
        refine wpc_sl (n := 5) (c' := 10) (pc' := 63) (ls' := [some (.ref 0), some (.int x1), some (.int x2)]) (st' := [.int x2, .ref 8, .int x1, .ref 0]) (s' := s) rfl ?_
        refine wpc_ldaI (a := 7) (N := 128) (v := (gI s 8 (ix x2))) rfl rfl (by decide) h467.1 rfl ?_
        have h472 := h467.2
        refine wpc_callI (m' := 36) (me' := cm36) (as := [.int x1, .int (gI s 8 (ix x2))]) (r := []) rfl rfl rfl rfl rfl ⟨by decide, (by first | decide | exact Nat.le_of_ble_eq_true rfl), (by first | decide | exact Nat.le_of_ble_eq_true rfl), rfl⟩ (calI.mono h472 fun v474 s473 h475 => ?_)
        refine wpc_sl (n := 1) (c' := 10) (pc' := 68) (ls' := [some (.ref 0), some (.int v474), some (.int x2)]) (st' := []) (s' := s473) rfl ?_
        exact h475
    · have h463 := h459.2 hc461
      exact wpc_lle (ls := [some (.ref 0), none, none]) ⟨rfl, trivial⟩ h463
  · have h460 := h.2 hc458
    exact wpc_lle (ls := [some (.ref 0), none, none]) ⟨rfl, trivial⟩ h460
theorem c7_68 (x1 : Int32) (x2 : Int32) (s : St) (Q : Int32 → St → Prop) (h : wpcI PP 7 cm7 10 18 [some (.ref 0), some (.int x1), some (.int (x2 + (1 : Int32)))] [] s Q) : wpcI PP 7 cm7 10 68 [some (.ref 0), some (.int x1), some (.int x2)] [] s Q := by
  refine wpc_sl (n := 2) (c' := 10) (pc' := 18) (ls' := [some (.ref 0), some (.int x1), some (.int (x2 + (1 : Int32)))]) (st' := []) (s' := s) rfl ?_
  exact h
theorem c7_74  (s : St) (Q : Int32 → St → Prop) (h : Q (gI s 0 28) (sI s 0 26 (1 : Int32))) : wpcI PP 7 cm7 10 74 [some (.ref 0), none, none] [] s Q := by
  refine wpc_sl (n := 5) (c' := 10) (pc' := 83) (ls' := [some (.ref 0), none, none]) (st' := [.int (gI s 0 28)]) (s' := (sI s 0 26 (1 : Int32))) rfl ?_
  exact wpc_ret rfl rfl (fun q => absurd q (by decide)) rfl ⟨(gI s 0 28), rfl, h⟩
theorem c17_in (a1 : Int32) (s : St) (Q : Int32 → St → Prop) (h : (((gI s 0 26) = (0 : Int32)) → Q (-1 : Int32) s) ∧ (¬ ((gI s 0 26) = (0 : Int32)) → ((a1 < (0 : Int32)) → Q (-1 : Int32) s) ∧ (¬ (a1 < (0 : Int32)) → ((a1 < (gI s 0 28)) → ((a1 < (128 : Int32)) → inb 128 a1 ∧ Q (gI s 10 (ix a1)) s) ∧ (¬ (a1 < (128 : Int32)) → Q (-1 : Int32) s)) ∧ (¬ (a1 < (gI s 0 28)) → Q (-1 : Int32) s)))) : calI PP 17 10 [.ref 0, .int a1] s Q := by
  refine cal_of (me := cm17) (ls := [some (.ref 0), some (.int a1)]) rfl (Nat.le_of_ble_eq_true rfl) rfl ?_
  refine wpc_sl (n := 2) (c' := 10) (pc' := 4) (ls' := [some (.ref 0), some (.int a1)]) (st' := [.int (gI s 0 26)]) (s' := s) rfl ?_
  refine wpc_if (a := 26) (b := 7) rfl (by decide) rfl rfl (wpc_br (p := (gI s 0 26) = (0 : Int32)) ⟨fun hc519 => ?_, fun hc519 => ?_⟩)
  · have h520 := h.1 hc519
    refine wpc_sl (n := 1) (c' := 10) (pc' := 27) (ls' := [some (.ref 0), some (.int a1)]) (st' := [.int (-1 : Int32)]) (s' := s) rfl ?_
    exact wpc_ret rfl rfl (fun q => absurd q (by decide)) rfl ⟨(-1 : Int32), rfl, h520⟩
  · have h521 := h.2 hc519
    refine wpc_sl (n := 1) (c' := 10) (pc' := 8) (ls' := [some (.ref 0), some (.int a1)]) (st' := [.int a1]) (s' := s) rfl ?_
    refine wpc_if (a := 26) (b := 11) rfl (by decide) rfl rfl (wpc_br (p := a1 < (0 : Int32)) ⟨fun hc522 => ?_, fun hc522 => ?_⟩)
    · have h523 := h521.1 hc522
      refine wpc_sl (n := 1) (c' := 10) (pc' := 27) (ls' := [some (.ref 0), some (.int a1)]) (st' := [.int (-1 : Int32)]) (s' := s) rfl ?_
      exact wpc_ret rfl rfl (fun q => absurd q (by decide)) rfl ⟨(-1 : Int32), rfl, h523⟩
    · have h524 := h521.2 hc522
      refine wpc_sl (n := 3) (c' := 10) (pc' := 16) (ls' := [some (.ref 0), some (.int a1)]) (st' := [.int (gI s 0 28), .int a1]) (s' := s) rfl ?_
      refine wpc_icmp (a := 26) (b := 19) rfl (by decide) rfl rfl (wpc_br (p := a1 < (gI s 0 28)) ⟨fun hc525 => ?_, fun hc525 => ?_⟩)
      · have h526 := h524.1 hc525
        refine wpc_sl (n := 2) (c' := 10) (pc' := 23) (ls' := [some (.ref 0), some (.int a1)]) (st' := [.int (128 : Int32), .int a1]) (s' := s) rfl ?_
        refine wpc_icmp (a := 28) (b := 26) rfl (by decide) rfl rfl (wpc_br (p := a1 < (128 : Int32)) ⟨fun hc528 => ?_, fun hc528 => ?_⟩)
        · have h529 := h526.1 hc528
          refine wpc_sl (n := 3) (c' := 10) (pc' := 33) (ls' := [some (.ref 0), some (.int a1)]) (st' := [.int a1, .ref 10]) (s' := s) rfl ?_
          refine wpc_ldaI (a := 9) (N := 128) (v := (gI s 10 (ix a1))) rfl rfl (by decide) h529.1 rfl ?_
          have h531 := h529.2
          exact wpc_ret rfl rfl (fun q => absurd q (by decide)) rfl ⟨(gI s 10 (ix a1)), rfl, h531⟩
        · have h530 := h526.2 hc528
          refine wpc_sl (n := 1) (c' := 10) (pc' := 27) (ls' := [some (.ref 0), some (.int a1)]) (st' := [.int (-1 : Int32)]) (s' := s) rfl ?_
          exact wpc_ret rfl rfl (fun q => absurd q (by decide)) rfl ⟨(-1 : Int32), rfl, h530⟩
      · have h527 := h524.2 hc525
        refine wpc_sl (n := 1) (c' := 10) (pc' := 27) (ls' := [some (.ref 0), some (.int a1)]) (st' := [.int (-1 : Int32)]) (s' := s) rfl ?_
        exact wpc_ret rfl rfl (fun q => absurd q (by decide)) rfl ⟨(-1 : Int32), rfl, h527⟩
theorem l0_in (a0 : Int32) (a1 : Int32) (a2 : Int32) (a3 : Int32) (a4 : Int32)  (Q : Int32 → Wd → Prop) (h : calV PP 0 0 [.ref 0, .int (2 : Int32)] s0 (fun s1 => calI PP 3 10 [.ref 0, .int a0] s1 (fun v4 s3 => calI PP 3 10 [.ref 0, .int a1] s3 (fun v7 s6 => calI PP 3 10 [.ref 0, .int a2] s6 (fun v10 s9 => calI PP 3 10 [.ref 0, .int a3] s9 (fun v13 s12 => calI PP 5 10 [.ref 0] s12 (fun v16 s15 => wplI PP QQ none 0 lm0 85 [some (.int a0), some (.int a1), some (.int a2), some (.int a3), some (.int a4), some (.ref 1), some (.int (a0 &&& (255 : Int32))), some (.int (a1 &&& (255 : Int32))), some (.int (a2 &&& (255 : Int32))), some (.int (a3 &&& (255 : Int32))), some (.int (a4 &&& (255 : Int32))), some (.int v4), some (.int v7), some (.int v10), some (.int v13), some (.int v16), none, none, none, none, none, none, none, none, none, none, none, none, none, none, none, none, none, none, none, none, none, none, none, none, none, none, none] [] (W1 s15) Q))))))) : lalI PP QQ none 0 [.int a0, .int a1, .int a2, .int a3, .int a4] W0 Q := by
  refine lal_of (me := lm0) (ls := [some (.int a0), some (.int a1), some (.int a2), some (.int a3), some (.int a4), none, none, none, none, none, none, none, none, none, none, none, none, none, none, none, none, none, none, none, none, none, none, none, none, none, none, none, none, none, none, none, none, none, none, none, none, none, none]) rfl (Nat.le_of_ble_eq_true rfl) rfl ?_
  refine wpl_new0 rfl rfl (by decide) (by decide) ?_
  refine wpl_sl (n := 2) (pc' := 5) (ls' := [some (.int a0), some (.int a1), some (.int a2), some (.int a3), some (.int a4), none, none, none, none, none, none, none, none, none, none, none, none, none, none, none, none, none, none, none, none, none, none, none, none, none, none, none, none, none, none, none, none, none, none, none, none, none, none]) (st' := [.int (2 : Int32), .ref 1, .ref 1]) rfl ?_
  refine wpl_ctor0 (me' := cm0) (as := [.int (2 : Int32)]) (r := [.ref 1]) rfl rfl rfl rfl rfl ⟨by decide, by decide, rfl, by decide, by decide⟩ (calV.mono h fun s1 h2 => ?_)
  refine wpl_sl (n := 5) (pc' := 17) (ls' := [some (.int a0), some (.int a1), some (.int a2), some (.int a3), some (.int a4), some (.ref 1), some (.int (a0 &&& (255 : Int32))), none, none, none, none, none, none, none, none, none, none, none, none, none, none, none, none, none, none, none, none, none, none, none, none, none, none, none, none, none, none, none, none, none, none, none, none]) (st' := []) rfl ?_
  refine wpl_sl (n := 5) (pc' := 25) (ls' := [some (.int a0), some (.int a1), some (.int a2), some (.int a3), some (.int a4), some (.ref 1), some (.int (a0 &&& (255 : Int32))), some (.int (a1 &&& (255 : Int32))), none, none, none, none, none, none, none, none, none, none, none, none, none, none, none, none, none, none, none, none, none, none, none, none, none, none, none, none, none, none, none, none, none, none, none]) (st' := [.int a2]) rfl ?_
  refine wpl_sl (n := 5) (pc' := 35) (ls' := [some (.int a0), some (.int a1), some (.int a2), some (.int a3), some (.int a4), some (.ref 1), some (.int (a0 &&& (255 : Int32))), some (.int (a1 &&& (255 : Int32))), some (.int (a2 &&& (255 : Int32))), none, none, none, none, none, none, none, none, none, none, none, none, none, none, none, none, none, none, none, none, none, none, none, none, none, none, none, none, none, none, none, none, none, none]) (st' := [.int (255 : Int32), .int a3]) rfl ?_
  refine wpl_sl (n := 5) (pc' := 44) (ls' := [some (.int a0), some (.int a1), some (.int a2), some (.int a3), some (.int a4), some (.ref 1), some (.int (a0 &&& (255 : Int32))), some (.int (a1 &&& (255 : Int32))), some (.int (a2 &&& (255 : Int32))), some (.int (a3 &&& (255 : Int32))), none, none, none, none, none, none, none, none, none, none, none, none, none, none, none, none, none, none, none, none, none, none, none, none, none, none, none, none, none, none, none, none, none]) (st' := [.int (a4 &&& (255 : Int32))]) rfl ?_
  refine wpl_sl (n := 3) (pc' := 49) (ls' := [some (.int a0), some (.int a1), some (.int a2), some (.int a3), some (.int a4), some (.ref 1), some (.int (a0 &&& (255 : Int32))), some (.int (a1 &&& (255 : Int32))), some (.int (a2 &&& (255 : Int32))), some (.int (a3 &&& (255 : Int32))), some (.int (a4 &&& (255 : Int32))), none, none, none, none, none, none, none, none, none, none, none, none, none, none, none, none, none, none, none, none, none, none, none, none, none, none, none, none, none, none, none, none]) (st' := [.int a0, .ref 1]) rfl ?_
  refine wpl_v1 (m' := 3) (me' := cm3) (as := [.int a0]) (r := []) rfl rfl rfl rfl rfl ⟨by decide, (by first | decide | exact Nat.le_of_ble_eq_true rfl), (by first | decide | exact Nat.le_of_ble_eq_true rfl), rfl⟩ (cal_I (calI.mono h2 fun v4 s3 h5 => ?_))
  refine wpl_sl (n := 3) (pc' := 57) (ls' := [some (.int a0), some (.int a1), some (.int a2), some (.int a3), some (.int a4), some (.ref 1), some (.int (a0 &&& (255 : Int32))), some (.int (a1 &&& (255 : Int32))), some (.int (a2 &&& (255 : Int32))), some (.int (a3 &&& (255 : Int32))), some (.int (a4 &&& (255 : Int32))), some (.int v4), none, none, none, none, none, none, none, none, none, none, none, none, none, none, none, none, none, none, none, none, none, none, none, none, none, none, none, none, none, none, none]) (st' := [.int a1, .ref 1]) rfl ?_
  refine wpl_v1 (m' := 3) (me' := cm3) (as := [.int a1]) (r := []) rfl rfl rfl rfl rfl ⟨by decide, (by first | decide | exact Nat.le_of_ble_eq_true rfl), (by first | decide | exact Nat.le_of_ble_eq_true rfl), rfl⟩ (cal_I (calI.mono h5 fun v7 s6 h8 => ?_))
  refine wpl_sl (n := 3) (pc' := 65) (ls' := [some (.int a0), some (.int a1), some (.int a2), some (.int a3), some (.int a4), some (.ref 1), some (.int (a0 &&& (255 : Int32))), some (.int (a1 &&& (255 : Int32))), some (.int (a2 &&& (255 : Int32))), some (.int (a3 &&& (255 : Int32))), some (.int (a4 &&& (255 : Int32))), some (.int v4), some (.int v7), none, none, none, none, none, none, none, none, none, none, none, none, none, none, none, none, none, none, none, none, none, none, none, none, none, none, none, none, none, none]) (st' := [.int a2, .ref 1]) rfl ?_
  refine wpl_v1 (m' := 3) (me' := cm3) (as := [.int a2]) (r := []) rfl rfl rfl rfl rfl ⟨by decide, (by first | decide | exact Nat.le_of_ble_eq_true rfl), (by first | decide | exact Nat.le_of_ble_eq_true rfl), rfl⟩ (cal_I (calI.mono h8 fun v10 s9 h11 => ?_))
  refine wpl_sl (n := 3) (pc' := 73) (ls' := [some (.int a0), some (.int a1), some (.int a2), some (.int a3), some (.int a4), some (.ref 1), some (.int (a0 &&& (255 : Int32))), some (.int (a1 &&& (255 : Int32))), some (.int (a2 &&& (255 : Int32))), some (.int (a3 &&& (255 : Int32))), some (.int (a4 &&& (255 : Int32))), some (.int v4), some (.int v7), some (.int v10), none, none, none, none, none, none, none, none, none, none, none, none, none, none, none, none, none, none, none, none, none, none, none, none, none, none, none, none, none]) (st' := [.int a3, .ref 1]) rfl ?_
  refine wpl_v1 (m' := 3) (me' := cm3) (as := [.int a3]) (r := []) rfl rfl rfl rfl rfl ⟨by decide, (by first | decide | exact Nat.le_of_ble_eq_true rfl), (by first | decide | exact Nat.le_of_ble_eq_true rfl), rfl⟩ (cal_I (calI.mono h11 fun v13 s12 h14 => ?_))
  refine wpl_sl (n := 2) (pc' := 80) (ls' := [some (.int a0), some (.int a1), some (.int a2), some (.int a3), some (.int a4), some (.ref 1), some (.int (a0 &&& (255 : Int32))), some (.int (a1 &&& (255 : Int32))), some (.int (a2 &&& (255 : Int32))), some (.int (a3 &&& (255 : Int32))), some (.int (a4 &&& (255 : Int32))), some (.int v4), some (.int v7), some (.int v10), some (.int v13), none, none, none, none, none, none, none, none, none, none, none, none, none, none, none, none, none, none, none, none, none, none, none, none, none, none, none, none]) (st' := [.ref 1]) rfl ?_
  refine wpl_v1 (m' := 5) (me' := cm5) (as := []) (r := []) rfl rfl rfl rfl rfl ⟨by decide, (by first | decide | exact Nat.le_of_ble_eq_true rfl), (by first | decide | exact Nat.le_of_ble_eq_true rfl), rfl⟩ (cal_I (calI.mono h14 fun v16 s15 h17 => ?_))
  refine wpl_sl (n := 1) (pc' := 85) (ls' := [some (.int a0), some (.int a1), some (.int a2), some (.int a3), some (.int a4), some (.ref 1), some (.int (a0 &&& (255 : Int32))), some (.int (a1 &&& (255 : Int32))), some (.int (a2 &&& (255 : Int32))), some (.int (a3 &&& (255 : Int32))), some (.int (a4 &&& (255 : Int32))), some (.int v4), some (.int v7), some (.int v10), some (.int v13), some (.int v16), none, none, none, none, none, none, none, none, none, none, none, none, none, none, none, none, none, none, none, none, none, none, none, none, none, none, none]) (st' := []) rfl ?_
  exact h17
theorem l0_85 (x0 : Int32) (x1 : Int32) (x2 : Int32) (x3 : Int32) (x4 : Int32) (x6 : Int32) (x7 : Int32) (x8 : Int32) (x9 : Int32) (x10 : Int32) (x11 : Int32) (x12 : Int32) (x13 : Int32) (x14 : Int32) (x15 : Int32)  (Q : Int32 → Wd → Prop) (h : calI PP 4 10 [.ref 0, .int x2] s (fun v19 s18 => calI PP 4 10 [.ref 0, .int x3] s18 (fun v22 s21 => calI PP 4 10 [.ref 0, .int x4] s21 (fun v25 s24 => calI PP 4 10 [.ref 0, .int x0] s24 (fun v28 s27 => calI PP 4 10 [.ref 0, .int x1] s27 (fun v31 s30 => calI PP 6 10 [.ref 0] s30 (fun v34 s33 => wplI PP QQ none 0 lm0 133 [none, none, none, none, none, some (.ref 1), some (.int x6), some (.int x7), some (.int x8), some (.int x9), some (.int x10), some (.int x11), some (.int x12), some (.int x13), some (.int x14), some (.int x15), some (.int v19), some (.int v22), some (.int v25), some (.int v28), some (.int v31), some (.int v34), none, none, none, none, none, none, none, none, none, none, none, none, none, none, none, none, none, none, none, none, none] [] (W1 s33) Q))))))) : wplI PP QQ none 0 lm0 85 [some (.int x0), some (.int x1), some (.int x2), some (.int x3), some (.int x4), some (.ref 1), some (.int x6), some (.int x7), some (.int x8), some (.int x9), some (.int x10), some (.int x11), some (.int x12), some (.int x13), some (.int x14), some (.int x15), none, none, none, none, none, none, none, none, none, none, none, none, none, none, none, none, none, none, none, none, none, none, none, none, none, none, none] [] (W1 s) Q := by
  refine wpl_sl (n := 2) (pc' := 88) (ls' := [some (.int x0), some (.int x1), some (.int x2), some (.int x3), some (.int x4), some (.ref 1), some (.int x6), some (.int x7), some (.int x8), some (.int x9), some (.int x10), some (.int x11), some (.int x12), some (.int x13), some (.int x14), some (.int x15), none, none, none, none, none, none, none, none, none, none, none, none, none, none, none, none, none, none, none, none, none, none, none, none, none, none, none]) (st' := [.int x2, .ref 1]) rfl ?_
  refine wpl_v1 (m' := 4) (me' := cm4) (as := [.int x2]) (r := []) rfl rfl rfl rfl rfl ⟨by decide, (by first | decide | exact Nat.le_of_ble_eq_true rfl), (by first | decide | exact Nat.le_of_ble_eq_true rfl), rfl⟩ (cal_I (calI.mono h fun v19 s18 h20 => ?_))
  refine wpl_sl (n := 3) (pc' := 96) (ls' := [some (.int x0), some (.int x1), some (.int x2), some (.int x3), some (.int x4), some (.ref 1), some (.int x6), some (.int x7), some (.int x8), some (.int x9), some (.int x10), some (.int x11), some (.int x12), some (.int x13), some (.int x14), some (.int x15), some (.int v19), none, none, none, none, none, none, none, none, none, none, none, none, none, none, none, none, none, none, none, none, none, none, none, none, none, none]) (st' := [.int x3, .ref 1]) rfl ?_
  refine wpl_v1 (m' := 4) (me' := cm4) (as := [.int x3]) (r := []) rfl rfl rfl rfl rfl ⟨by decide, (by first | decide | exact Nat.le_of_ble_eq_true rfl), (by first | decide | exact Nat.le_of_ble_eq_true rfl), rfl⟩ (cal_I (calI.mono h20 fun v22 s21 h23 => ?_))
  refine wpl_sl (n := 3) (pc' := 105) (ls' := [some (.int x0), some (.int x1), some (.int x2), some (.int x3), some (.int x4), some (.ref 1), some (.int x6), some (.int x7), some (.int x8), some (.int x9), some (.int x10), some (.int x11), some (.int x12), some (.int x13), some (.int x14), some (.int x15), some (.int v19), some (.int v22), none, none, none, none, none, none, none, none, none, none, none, none, none, none, none, none, none, none, none, none, none, none, none, none, none]) (st' := [.int x4, .ref 1]) rfl ?_
  refine wpl_v1 (m' := 4) (me' := cm4) (as := [.int x4]) (r := []) rfl rfl rfl rfl rfl ⟨by decide, (by first | decide | exact Nat.le_of_ble_eq_true rfl), (by first | decide | exact Nat.le_of_ble_eq_true rfl), rfl⟩ (cal_I (calI.mono h23 fun v25 s24 h26 => ?_))
  refine wpl_sl (n := 3) (pc' := 113) (ls' := [some (.int x0), some (.int x1), some (.int x2), some (.int x3), some (.int x4), some (.ref 1), some (.int x6), some (.int x7), some (.int x8), some (.int x9), some (.int x10), some (.int x11), some (.int x12), some (.int x13), some (.int x14), some (.int x15), some (.int v19), some (.int v22), some (.int v25), none, none, none, none, none, none, none, none, none, none, none, none, none, none, none, none, none, none, none, none, none, none, none, none]) (st' := [.int x0, .ref 1]) rfl ?_
  refine wpl_v1 (m' := 4) (me' := cm4) (as := [.int x0]) (r := []) rfl rfl rfl rfl rfl ⟨by decide, (by first | decide | exact Nat.le_of_ble_eq_true rfl), (by first | decide | exact Nat.le_of_ble_eq_true rfl), rfl⟩ (cal_I (calI.mono h26 fun v28 s27 h29 => ?_))
  refine wpl_sl (n := 3) (pc' := 121) (ls' := [some (.int x0), some (.int x1), some (.int x2), some (.int x3), some (.int x4), some (.ref 1), some (.int x6), some (.int x7), some (.int x8), some (.int x9), some (.int x10), some (.int x11), some (.int x12), some (.int x13), some (.int x14), some (.int x15), some (.int v19), some (.int v22), some (.int v25), some (.int v28), none, none, none, none, none, none, none, none, none, none, none, none, none, none, none, none, none, none, none, none, none, none, none]) (st' := [.int x1, .ref 1]) rfl ?_
  refine wpl_v1 (m' := 4) (me' := cm4) (as := [.int x1]) (r := []) rfl rfl rfl rfl rfl ⟨by decide, (by first | decide | exact Nat.le_of_ble_eq_true rfl), (by first | decide | exact Nat.le_of_ble_eq_true rfl), rfl⟩ (cal_I (calI.mono h29 fun v31 s30 h32 => ?_))
  refine wpl_sl (n := 2) (pc' := 128) (ls' := [some (.int x0), some (.int x1), some (.int x2), some (.int x3), some (.int x4), some (.ref 1), some (.int x6), some (.int x7), some (.int x8), some (.int x9), some (.int x10), some (.int x11), some (.int x12), some (.int x13), some (.int x14), some (.int x15), some (.int v19), some (.int v22), some (.int v25), some (.int v28), some (.int v31), none, none, none, none, none, none, none, none, none, none, none, none, none, none, none, none, none, none, none, none, none, none]) (st' := [.ref 1]) rfl ?_
  refine wpl_v1 (m' := 6) (me' := cm6) (as := []) (r := []) rfl rfl rfl rfl rfl ⟨by decide, (by first | decide | exact Nat.le_of_ble_eq_true rfl), (by first | decide | exact Nat.le_of_ble_eq_true rfl), rfl⟩ (cal_I (calI.mono h32 fun v34 s33 h35 => ?_))
  refine wpl_sl (n := 1) (pc' := 133) (ls' := [some (.int x0), some (.int x1), some (.int x2), some (.int x3), some (.int x4), some (.ref 1), some (.int x6), some (.int x7), some (.int x8), some (.int x9), some (.int x10), some (.int x11), some (.int x12), some (.int x13), some (.int x14), some (.int x15), some (.int v19), some (.int v22), some (.int v25), some (.int v28), some (.int v31), some (.int v34), none, none, none, none, none, none, none, none, none, none, none, none, none, none, none, none, none, none, none, none, none]) (st' := []) rfl ?_
  exact wpl_lle (ls := [none, none, none, none, none, some (.ref 1), some (.int x6), some (.int x7), some (.int x8), some (.int x9), some (.int x10), some (.int x11), some (.int x12), some (.int x13), some (.int x14), some (.int x15), some (.int v19), some (.int v22), some (.int v25), some (.int v28), some (.int v31), some (.int v34), none, none, none, none, none, none, none, none, none, none, none, none, none, none, none, none, none, none, none, none, none]) ⟨rfl, rfl, rfl, rfl, rfl, rfl, rfl, rfl, rfl, rfl, rfl, rfl, rfl, rfl, rfl, rfl, rfl, trivial⟩ h35
theorem l0_133 (x6 : Int32) (x7 : Int32) (x8 : Int32) (x9 : Int32) (x10 : Int32) (x11 : Int32) (x12 : Int32) (x13 : Int32) (x14 : Int32) (x15 : Int32) (x16 : Int32) (x17 : Int32) (x18 : Int32) (x19 : Int32) (x20 : Int32) (x21 : Int32)  (Q : Int32 → Wd → Prop) (h : ∀ m36, m36 = (if x6 = x8 then (if x7 = x9 then (0 : Int32) else (1 : Int32)) else (1 : Int32)) → (wplI PP QQ none 0 lm0 152 [none, none, none, none, none, some (.ref 1), some (.int x6), some (.int x7), some (.int x8), some (.int x9), some (.int x10), some (.int x11), some (.int x12), some (.int x13), some (.int x14), some (.int x15), some (.int x16), some (.int x17), some (.int x18), some (.int x19), some (.int x20), some (.int x21), none, none, none, none, none, none, none, none, none, none, none, none, none, none, none, none, none, none, none, none, none] [.int m36] (W1 s) Q)) : wplI PP QQ none 0 lm0 133 [none, none, none, none, none, some (.ref 1), some (.int x6), some (.int x7), some (.int x8), some (.int x9), some (.int x10), some (.int x11), some (.int x12), some (.int x13), some (.int x14), some (.int x15), some (.int x16), some (.int x17), some (.int x18), some (.int x19), some (.int x20), some (.int x21), none, none, none, none, none, none, none, none, none, none, none, none, none, none, none, none, none, none, none, none, none] [] (W1 s) Q := by
  refine wpl_sl (n := 2) (pc' := 137) (ls' := [none, none, none, none, none, some (.ref 1), some (.int x6), some (.int x7), some (.int x8), some (.int x9), some (.int x10), some (.int x11), some (.int x12), some (.int x13), some (.int x14), some (.int x15), some (.int x16), some (.int x17), some (.int x18), some (.int x19), some (.int x20), some (.int x21), none, none, none, none, none, none, none, none, none, none, none, none, none, none, none, none, none, none, none, none, none]) (st' := [.int x8, .int x6]) rfl ?_
  have hm37 : ∀ m36, m36 = (if x6 = x8 then (if x7 = x9 then (0 : Int32) else (1 : Int32)) else (1 : Int32)) → wplI PP QQ none 0 lm0 152 [none, none, none, none, none, some (.ref 1), some (.int x6), some (.int x7), some (.int x8), some (.int x9), some (.int x10), some (.int x11), some (.int x12), some (.int x13), some (.int x14), some (.int x15), some (.int x16), some (.int x17), some (.int x18), some (.int x19), some (.int x20), some (.int x21), none, none, none, none, none, none, none, none, none, none, none, none, none, none, none, none, none, none, none, none, none] [.int m36] (W1 s) Q := by
    intro m36 em36
    have h38 := h m36 em36
    exact h38
  refine wpl_icmp (a := 151) (b := 140) rfl (by decide) rfl rfl (wpl_br (p := x6 = x8) ⟨fun hc39 => ?_, fun hc39 => ?_⟩)
  · refine wpl_sl (n := 2) (pc' := 144) (ls' := [none, none, none, none, none, some (.ref 1), some (.int x6), some (.int x7), some (.int x8), some (.int x9), some (.int x10), some (.int x11), some (.int x12), some (.int x13), some (.int x14), some (.int x15), some (.int x16), some (.int x17), some (.int x18), some (.int x19), some (.int x20), some (.int x21), none, none, none, none, none, none, none, none, none, none, none, none, none, none, none, none, none, none, none, none, none]) (st' := [.int x9, .int x7]) rfl ?_
    refine wpl_icmp (a := 151) (b := 147) rfl (by decide) rfl rfl (wpl_br (p := x7 = x9) ⟨fun hc40 => ?_, fun hc40 => ?_⟩)
    · refine wpl_sl (n := 2) (pc' := 152) (ls' := [none, none, none, none, none, some (.ref 1), some (.int x6), some (.int x7), some (.int x8), some (.int x9), some (.int x10), some (.int x11), some (.int x12), some (.int x13), some (.int x14), some (.int x15), some (.int x16), some (.int x17), some (.int x18), some (.int x19), some (.int x20), some (.int x21), none, none, none, none, none, none, none, none, none, none, none, none, none, none, none, none, none, none, none, none, none]) (st' := [.int (0 : Int32)]) rfl ?_
      first | exact hm37 _ (by simp only [if_pos hc39, if_pos hc40]) | exact wpl_lle (by repeat (first | exact trivial | refine ⟨rfl, ?_⟩)) (hm37 _ (by simp only [if_pos hc39, if_pos hc40]))
    · refine wpl_sl (n := 1) (pc' := 152) (ls' := [none, none, none, none, none, some (.ref 1), some (.int x6), some (.int x7), some (.int x8), some (.int x9), some (.int x10), some (.int x11), some (.int x12), some (.int x13), some (.int x14), some (.int x15), some (.int x16), some (.int x17), some (.int x18), some (.int x19), some (.int x20), some (.int x21), none, none, none, none, none, none, none, none, none, none, none, none, none, none, none, none, none, none, none, none, none]) (st' := [.int (1 : Int32)]) rfl ?_
      first | exact hm37 _ (by simp only [if_pos hc39, if_neg hc40]) | exact wpl_lle (by repeat (first | exact trivial | refine ⟨rfl, ?_⟩)) (hm37 _ (by simp only [if_pos hc39, if_neg hc40]))
  · refine wpl_sl (n := 1) (pc' := 152) (ls' := [none, none, none, none, none, some (.ref 1), some (.int x6), some (.int x7), some (.int x8), some (.int x9), some (.int x10), some (.int x11), some (.int x12), some (.int x13), some (.int x14), some (.int x15), some (.int x16), some (.int x17), some (.int x18), some (.int x19), some (.int x20), some (.int x21), none, none, none, none, none, none, none, none, none, none, none, none, none, none, none, none, none, none, none, none, none]) (st' := [.int (1 : Int32)]) rfl ?_
    first | exact hm37 _ (by simp only [if_neg hc39]) | exact wpl_lle (by repeat (first | exact trivial | refine ⟨rfl, ?_⟩)) (hm37 _ (by simp only [if_neg hc39]))
theorem l0_152 (x6 : Int32) (x7 : Int32) (x8 : Int32) (x9 : Int32) (x10 : Int32) (x11 : Int32) (x12 : Int32) (x13 : Int32) (x14 : Int32) (x15 : Int32) (x16 : Int32) (x17 : Int32) (x18 : Int32) (x19 : Int32) (x20 : Int32) (x21 : Int32) (y0 : Int32)  (Q : Int32 → Wd → Prop) (h : ∀ m41, m41 = (if x10 = x6 then (if x6 = x7 then (0 : Int32) else (if x10 = x8 then (if x6 = x9 then (1 : Int32) else (-1 : Int32)) else (-1 : Int32))) else (if x10 = x8 then (if x6 = x9 then (1 : Int32) else (-1 : Int32)) else (-1 : Int32))) → (wplI PP QQ none 0 lm0 191 [none, none, none, none, none, some (.ref 1), some (.int x6), some (.int x7), some (.int x8), some (.int x9), some (.int x10), some (.int x11), some (.int x12), some (.int x13), some (.int x14), some (.int x15), some (.int x16), some (.int x17), some (.int x18), some (.int x19), some (.int x20), some (.int x21), some (.int y0), none, none, none, none, none, none, none, none, none, none, none, none, none, none, none, none, none, none, none, none] [.int m41] (W1 s) Q)) : wplI PP QQ none 0 lm0 152 [none, none, none, none, none, some (.ref 1), some (.int x6), some (.int x7), some (.int x8), some (.int x9), some (.int x10), some (.int x11), some (.int x12), some (.int x13), some (.int x14), some (.int x15), some (.int x16), some (.int x17), some (.int x18), some (.int x19), some (.int x20), some (.int x21), none, none, none, none, none, none, none, none, none, none, none, none, none, none, none, none, none, none, none, none, none] [.int y0] (W1 s) Q := by
  refine wpl_sl (n := 3) (pc' := 158) (ls' := [none, none, none, none, none, some (.ref 1), some (.int x6), some (.int x7), some (.int x8), some (.int x9), some (.int x10), some (.int x11), some (.int x12), some (.int x13), some (.int x14), some (.int x15), some (.int x16), some (.int x17), some (.int x18), some (.int x19), some (.int x20), some (.int x21), some (.int y0), none, none, none, none, none, none, none, none, none, none, none, none, none, none, none, none, none, none, none, none]) (st' := [.int x6, .int x10]) rfl ?_
  have hm42 : ∀ m41, m41 = (if x10 = x6 then (if x6 = x7 then (0 : Int32) else (if x10 = x8 then (if x6 = x9 then (1 : Int32) else (-1 : Int32)) else (-1 : Int32))) else (if x10 = x8 then (if x6 = x9 then (1 : Int32) else (-1 : Int32)) else (-1 : Int32))) → wplI PP QQ none 0 lm0 191 [none, none, none, none, none, some (.ref 1), some (.int x6), some (.int x7), some (.int x8), some (.int x9), some (.int x10), some (.int x11), some (.int x12), some (.int x13), some (.int x14), some (.int x15), some (.int x16), some (.int x17), some (.int x18), some (.int x19), some (.int x20), some (.int x21), some (.int y0), none, none, none, none, none, none, none, none, none, none, none, none, none, none, none, none, none, none, none, none] [.int m41] (W1 s) Q := by
    intro m41 em41
    have h43 := h m41 em41
    exact h43
  refine wpl_icmp (a := 172) (b := 161) rfl (by decide) rfl rfl (wpl_br (p := x10 = x6) ⟨fun hc44 => ?_, fun hc44 => ?_⟩)
  · refine wpl_sl (n := 2) (pc' := 165) (ls' := [none, none, none, none, none, some (.ref 1), some (.int x6), some (.int x7), some (.int x8), some (.int x9), some (.int x10), some (.int x11), some (.int x12), some (.int x13), some (.int x14), some (.int x15), some (.int x16), some (.int x17), some (.int x18), some (.int x19), some (.int x20), some (.int x21), some (.int y0), none, none, none, none, none, none, none, none, none, none, none, none, none, none, none, none, none, none, none, none]) (st' := [.int x7, .int x6]) rfl ?_
    refine wpl_icmp (a := 172) (b := 168) rfl (by decide) rfl rfl (wpl_br (p := x6 = x7) ⟨fun hc45 => ?_, fun hc45 => ?_⟩)
    · refine wpl_sl (n := 2) (pc' := 191) (ls' := [none, none, none, none, none, some (.ref 1), some (.int x6), some (.int x7), some (.int x8), some (.int x9), some (.int x10), some (.int x11), some (.int x12), some (.int x13), some (.int x14), some (.int x15), some (.int x16), some (.int x17), some (.int x18), some (.int x19), some (.int x20), some (.int x21), some (.int y0), none, none, none, none, none, none, none, none, none, none, none, none, none, none, none, none, none, none, none, none]) (st' := [.int (0 : Int32)]) rfl ?_
      first | exact hm42 _ (by simp only [if_pos hc44, if_pos hc45]) | exact wpl_lle (by repeat (first | exact trivial | refine ⟨rfl, ?_⟩)) (hm42 _ (by simp only [if_pos hc44, if_pos hc45]))
    · refine wpl_sl (n := 2) (pc' := 176) (ls' := [none, none, none, none, none, some (.ref 1), some (.int x6), some (.int x7), some (.int x8), some (.int x9), some (.int x10), some (.int x11), some (.int x12), some (.int x13), some (.int x14), some (.int x15), some (.int x16), some (.int x17), some (.int x18), some (.int x19), some (.int x20), some (.int x21), some (.int y0), none, none, none, none, none, none, none, none, none, none, none, none, none, none, none, none, none, none, none, none]) (st' := [.int x8, .int x10]) rfl ?_
      refine wpl_icmp (a := 190) (b := 179) rfl (by decide) rfl rfl (wpl_br (p := x10 = x8) ⟨fun hc46 => ?_, fun hc46 => ?_⟩)
      · refine wpl_sl (n := 2) (pc' := 183) (ls' := [none, none, none, none, none, some (.ref 1), some (.int x6), some (.int x7), some (.int x8), some (.int x9), some (.int x10), some (.int x11), some (.int x12), some (.int x13), some (.int x14), some (.int x15), some (.int x16), some (.int x17), some (.int x18), some (.int x19), some (.int x20), some (.int x21), some (.int y0), none, none, none, none, none, none, none, none, none, none, none, none, none, none, none, none, none, none, none, none]) (st' := [.int x9, .int x6]) rfl ?_
        refine wpl_icmp (a := 190) (b := 186) rfl (by decide) rfl rfl (wpl_br (p := x6 = x9) ⟨fun hc47 => ?_, fun hc47 => ?_⟩)
        · refine wpl_sl (n := 2) (pc' := 191) (ls' := [none, none, none, none, none, some (.ref 1), some (.int x6), some (.int x7), some (.int x8), some (.int x9), some (.int x10), some (.int x11), some (.int x12), some (.int x13), some (.int x14), some (.int x15), some (.int x16), some (.int x17), some (.int x18), some (.int x19), some (.int x20), some (.int x21), some (.int y0), none, none, none, none, none, none, none, none, none, none, none, none, none, none, none, none, none, none, none, none]) (st' := [.int (1 : Int32)]) rfl ?_
          first | exact hm42 _ (by simp only [if_pos hc44, if_neg hc45, if_pos hc46, if_pos hc47]) | exact wpl_lle (by repeat (first | exact trivial | refine ⟨rfl, ?_⟩)) (hm42 _ (by simp only [if_pos hc44, if_neg hc45, if_pos hc46, if_pos hc47]))
        · refine wpl_sl (n := 1) (pc' := 191) (ls' := [none, none, none, none, none, some (.ref 1), some (.int x6), some (.int x7), some (.int x8), some (.int x9), some (.int x10), some (.int x11), some (.int x12), some (.int x13), some (.int x14), some (.int x15), some (.int x16), some (.int x17), some (.int x18), some (.int x19), some (.int x20), some (.int x21), some (.int y0), none, none, none, none, none, none, none, none, none, none, none, none, none, none, none, none, none, none, none, none]) (st' := [.int (-1 : Int32)]) rfl ?_
          first | exact hm42 _ (by simp only [if_pos hc44, if_neg hc45, if_pos hc46, if_neg hc47]) | exact wpl_lle (by repeat (first | exact trivial | refine ⟨rfl, ?_⟩)) (hm42 _ (by simp only [if_pos hc44, if_neg hc45, if_pos hc46, if_neg hc47]))
      · refine wpl_sl (n := 1) (pc' := 191) (ls' := [none, none, none, none, none, some (.ref 1), some (.int x6), some (.int x7), some (.int x8), some (.int x9), some (.int x10), some (.int x11), some (.int x12), some (.int x13), some (.int x14), some (.int x15), some (.int x16), some (.int x17), some (.int x18), some (.int x19), some (.int x20), some (.int x21), some (.int y0), none, none, none, none, none, none, none, none, none, none, none, none, none, none, none, none, none, none, none, none]) (st' := [.int (-1 : Int32)]) rfl ?_
        first | exact hm42 _ (by simp only [if_pos hc44, if_neg hc45, if_neg hc46]) | exact wpl_lle (by repeat (first | exact trivial | refine ⟨rfl, ?_⟩)) (hm42 _ (by simp only [if_pos hc44, if_neg hc45, if_neg hc46]))
  · refine wpl_sl (n := 2) (pc' := 176) (ls' := [none, none, none, none, none, some (.ref 1), some (.int x6), some (.int x7), some (.int x8), some (.int x9), some (.int x10), some (.int x11), some (.int x12), some (.int x13), some (.int x14), some (.int x15), some (.int x16), some (.int x17), some (.int x18), some (.int x19), some (.int x20), some (.int x21), some (.int y0), none, none, none, none, none, none, none, none, none, none, none, none, none, none, none, none, none, none, none, none]) (st' := [.int x8, .int x10]) rfl ?_
    refine wpl_icmp (a := 190) (b := 179) rfl (by decide) rfl rfl (wpl_br (p := x10 = x8) ⟨fun hc48 => ?_, fun hc48 => ?_⟩)
    · refine wpl_sl (n := 2) (pc' := 183) (ls' := [none, none, none, none, none, some (.ref 1), some (.int x6), some (.int x7), some (.int x8), some (.int x9), some (.int x10), some (.int x11), some (.int x12), some (.int x13), some (.int x14), some (.int x15), some (.int x16), some (.int x17), some (.int x18), some (.int x19), some (.int x20), some (.int x21), some (.int y0), none, none, none, none, none, none, none, none, none, none, none, none, none, none, none, none, none, none, none, none]) (st' := [.int x9, .int x6]) rfl ?_
      refine wpl_icmp (a := 190) (b := 186) rfl (by decide) rfl rfl (wpl_br (p := x6 = x9) ⟨fun hc49 => ?_, fun hc49 => ?_⟩)
      · refine wpl_sl (n := 2) (pc' := 191) (ls' := [none, none, none, none, none, some (.ref 1), some (.int x6), some (.int x7), some (.int x8), some (.int x9), some (.int x10), some (.int x11), some (.int x12), some (.int x13), some (.int x14), some (.int x15), some (.int x16), some (.int x17), some (.int x18), some (.int x19), some (.int x20), some (.int x21), some (.int y0), none, none, none, none, none, none, none, none, none, none, none, none, none, none, none, none, none, none, none, none]) (st' := [.int (1 : Int32)]) rfl ?_
        first | exact hm42 _ (by simp only [if_neg hc44, if_pos hc48, if_pos hc49]) | exact wpl_lle (by repeat (first | exact trivial | refine ⟨rfl, ?_⟩)) (hm42 _ (by simp only [if_neg hc44, if_pos hc48, if_pos hc49]))
      · refine wpl_sl (n := 1) (pc' := 191) (ls' := [none, none, none, none, none, some (.ref 1), some (.int x6), some (.int x7), some (.int x8), some (.int x9), some (.int x10), some (.int x11), some (.int x12), some (.int x13), some (.int x14), some (.int x15), some (.int x16), some (.int x17), some (.int x18), some (.int x19), some (.int x20), some (.int x21), some (.int y0), none, none, none, none, none, none, none, none, none, none, none, none, none, none, none, none, none, none, none, none]) (st' := [.int (-1 : Int32)]) rfl ?_
        first | exact hm42 _ (by simp only [if_neg hc44, if_pos hc48, if_neg hc49]) | exact wpl_lle (by repeat (first | exact trivial | refine ⟨rfl, ?_⟩)) (hm42 _ (by simp only [if_neg hc44, if_pos hc48, if_neg hc49]))
    · refine wpl_sl (n := 1) (pc' := 191) (ls' := [none, none, none, none, none, some (.ref 1), some (.int x6), some (.int x7), some (.int x8), some (.int x9), some (.int x10), some (.int x11), some (.int x12), some (.int x13), some (.int x14), some (.int x15), some (.int x16), some (.int x17), some (.int x18), some (.int x19), some (.int x20), some (.int x21), some (.int y0), none, none, none, none, none, none, none, none, none, none, none, none, none, none, none, none, none, none, none, none]) (st' := [.int (-1 : Int32)]) rfl ?_
      first | exact hm42 _ (by simp only [if_neg hc44, if_neg hc48]) | exact wpl_lle (by repeat (first | exact trivial | refine ⟨rfl, ?_⟩)) (hm42 _ (by simp only [if_neg hc44, if_neg hc48]))
theorem l0_191 (x6 : Int32) (x7 : Int32) (x8 : Int32) (x9 : Int32) (x10 : Int32) (x11 : Int32) (x12 : Int32) (x13 : Int32) (x14 : Int32) (x15 : Int32) (x16 : Int32) (x17 : Int32) (x18 : Int32) (x19 : Int32) (x20 : Int32) (x21 : Int32) (x22 : Int32) (y0 : Int32)  (Q : Int32 → Wd → Prop) (h : ∀ m50, m50 = (if y0 < (0 : Int32) then (2 : Int32) else (1 : Int32)) → (∀ m53, m53 = (if y0 < (0 : Int32) then (1 : Int32) else y0) → (∀ m56, m56 = (if y0 < (0 : Int32) then (1 : Int32) else (2 : Int32)) → (∀ m59, m59 = (if y0 < (0 : Int32) then (0 : Int32) else (1 : Int32)) → (calI PP 14 10 [.ref 0, .int (0 : Int32)] s (fun v63 s62 => calI PP 15 10 [.ref 0, .int (0 : Int32)] s62 (fun v66 s65 => calI PP 14 10 [.ref 0, .int (1 : Int32)] s65 (fun v69 s68 => calI PP 15 10 [.ref 0, .int (1 : Int32)] s68 (fun v72 s71 => calI PP 14 10 [.ref 0, .int (2 : Int32)] s71 (fun v75 s74 => calI PP 15 10 [.ref 0, .int (2 : Int32)] s74 (fun v78 s77 => wplI PP QQ none 0 lm0 290 [none, none, none, none, none, some (.ref 1), some (.int x6), some (.int x7), some (.int x8), some (.int x9), some (.int x10), some (.int x11), some (.int x12), some (.int x13), some (.int x14), some (.int x15), some (.int x16), some (.int x17), some (.int x18), some (.int x19), some (.int x20), some (.int x21), some (.int x22), none, some (.int m50), some (.int m53), some (.int m56), some (.int m59), some (.int v63), some (.int v66), some (.int v69), some (.int v72), some (.int v75), some (.int v78), none, none, none, none, none, none, none, none, none] [] (W1 s77) Q))))))))))) : wplI PP QQ none 0 lm0 191 [none, none, none, none, none, some (.ref 1), some (.int x6), some (.int x7), some (.int x8), some (.int x9), some (.int x10), some (.int x11), some (.int x12), some (.int x13), some (.int x14), some (.int x15), some (.int x16), some (.int x17), some (.int x18), some (.int x19), some (.int x20), some (.int x21), some (.int x22), none, none, none, none, none, none, none, none, none, none, none, none, none, none, none, none, none, none, none, none] [.int y0] (W1 s) Q := by
  refine wpl_sl (n := 2) (pc' := 195) (ls' := [none, none, none, none, none, some (.ref 1), some (.int x6), some (.int x7), some (.int x8), some (.int x9), some (.int x10), some (.int x11), some (.int x12), some (.int x13), some (.int x14), some (.int x15), some (.int x16), some (.int x17), some (.int x18), some (.int x19), some (.int x20), some (.int x21), some (.int x22), some (.int y0), none, none, none, none, none, none, none, none, none, none, none, none, none, none, none, none, none, none, none]) (st' := [.int y0]) rfl ?_
  have hm51 : ∀ m50, m50 = (if y0 < (0 : Int32) then (2 : Int32) else (1 : Int32)) → wplI PP QQ none 0 lm0 203 [none, none, none, none, none, some (.ref 1), some (.int x6), some (.int x7), some (.int x8), some (.int x9), some (.int x10), some (.int x11), some (.int x12), some (.int x13), some (.int x14), some (.int x15), some (.int x16), some (.int x17), some (.int x18), some (.int x19), some (.int x20), some (.int x21), some (.int x22), some (.int y0), none, none, none, none, none, none, none, none, none, none, none, none, none, none, none, none, none, none, none] [.int m50] (W1 s) Q := by
    intro m50 em50
    have h52 := h m50 em50
    refine wpl_sl (n := 2) (pc' := 207) (ls' := [none, none, none, none, none, some (.ref 1), some (.int x6), some (.int x7), some (.int x8), some (.int x9), some (.int x10), some (.int x11), some (.int x12), some (.int x13), some (.int x14), some (.int x15), some (.int x16), some (.int x17), some (.int x18), some (.int x19), some (.int x20), some (.int x21), some (.int x22), some (.int y0), some (.int m50), none, none, none, none, none, none, none, none, none, none, none, none, none, none, none, none, none, none]) (st' := [.int y0]) rfl ?_
    have hm54 : ∀ m53, m53 = (if y0 < (0 : Int32) then (1 : Int32) else y0) → wplI PP QQ none 0 lm0 216 [none, none, none, none, none, some (.ref 1), some (.int x6), some (.int x7), some (.int x8), some (.int x9), some (.int x10), some (.int x11), some (.int x12), some (.int x13), some (.int x14), some (.int x15), some (.int x16), some (.int x17), some (.int x18), some (.int x19), some (.int x20), some (.int x21), some (.int x22), some (.int y0), some (.int m50), none, none, none, none, none, none, none, none, none, none, none, none, none, none, none, none, none, none] [.int m53] (W1 s) Q := by
      intro m53 em53
      have h55 := h52 m53 em53
      refine wpl_sl (n := 2) (pc' := 220) (ls' := [none, none, none, none, none, some (.ref 1), some (.int x6), some (.int x7), some (.int x8), some (.int x9), some (.int x10), some (.int x11), some (.int x12), some (.int x13), some (.int x14), some (.int x15), some (.int x16), some (.int x17), some (.int x18), some (.int x19), some (.int x20), some (.int x21), some (.int x22), some (.int y0), some (.int m50), some (.int m53), none, none, none, none, none, none, none, none, none, none, none, none, none, none, none, none, none]) (st' := [.int y0]) rfl ?_
      have hm57 : ∀ m56, m56 = (if y0 < (0 : Int32) then (1 : Int32) else (2 : Int32)) → wplI PP QQ none 0 lm0 228 [none, none, none, none, none, some (.ref 1), some (.int x6), some (.int x7), some (.int x8), some (.int x9), some (.int x10), some (.int x11), some (.int x12), some (.int x13), some (.int x14), some (.int x15), some (.int x16), some (.int x17), some (.int x18), some (.int x19), some (.int x20), some (.int x21), some (.int x22), some (.int y0), some (.int m50), some (.int m53), none, none, none, none, none, none, none, none, none, none, none, none, none, none, none, none, none] [.int m56] (W1 s) Q := by
        intro m56 em56
        have h58 := h55 m56 em56
        refine wpl_sl (n := 2) (pc' := 232) (ls' := [none, none, none, none, none, some (.ref 1), some (.int x6), some (.int x7), some (.int x8), some (.int x9), some (.int x10), some (.int x11), some (.int x12), some (.int x13), some (.int x14), some (.int x15), some (.int x16), some (.int x17), some (.int x18), some (.int x19), some (.int x20), some (.int x21), some (.int x22), some (.int y0), some (.int m50), some (.int m53), some (.int m56), none, none, none, none, none, none, none, none, none, none, none, none, none, none, none, none]) (st' := [.int y0]) rfl ?_
        have hm60 : ∀ m59, m59 = (if y0 < (0 : Int32) then (0 : Int32) else (1 : Int32)) → wplI PP QQ none 0 lm0 240 [none, none, none, none, none, some (.ref 1), some (.int x6), some (.int x7), some (.int x8), some (.int x9), some (.int x10), some (.int x11), some (.int x12), some (.int x13), some (.int x14), some (.int x15), some (.int x16), some (.int x17), some (.int x18), some (.int x19), some (.int x20), some (.int x21), some (.int x22), some (.int y0), some (.int m50), some (.int m53), some (.int m56), none, none, none, none, none, none, none, none, none, none, none, none, none, none, none, none] [.int m59] (W1 s) Q := by
          intro m59 em59
          have h61 := h58 m59 em59
          refine wpl_sl (n := 3) (pc' := 245) (ls' := [none, none, none, none, none, some (.ref 1), some (.int x6), some (.int x7), some (.int x8), some (.int x9), some (.int x10), some (.int x11), some (.int x12), some (.int x13), some (.int x14), some (.int x15), some (.int x16), some (.int x17), some (.int x18), some (.int x19), some (.int x20), some (.int x21), some (.int x22), some (.int y0), some (.int m50), some (.int m53), some (.int m56), some (.int m59), none, none, none, none, none, none, none, none, none, none, none, none, none, none, none]) (st' := [.int (0 : Int32), .ref 1]) rfl ?_
          refine wpl_v1 (m' := 14) (me' := cm14) (as := [.int (0 : Int32)]) (r := []) rfl rfl rfl rfl rfl ⟨by decide, (by first | decide | exact Nat.le_of_ble_eq_true rfl), (by first | decide | exact Nat.le_of_ble_eq_true rfl), rfl⟩ (cal_I (calI.mono h61 fun v63 s62 h64 => ?_))
          refine wpl_sl (n := 3) (pc' := 253) (ls' := [none, none, none, none, none, some (.ref 1), some (.int x6), some (.int x7), some (.int x8), some (.int x9), some (.int x10), some (.int x11), some (.int x12), some (.int x13), some (.int x14), some (.int x15), some (.int x16), some (.int x17), some (.int x18), some (.int x19), some (.int x20), some (.int x21), some (.int x22), some (.int y0), some (.int m50), some (.int m53), some (.int m56), some (.int m59), some (.int v63), none, none, none, none, none, none, none, none, none, none, none, none, none, none]) (st' := [.int (0 : Int32), .ref 1]) rfl ?_
          refine wpl_v1 (m' := 15) (me' := cm15) (as := [.int (0 : Int32)]) (r := []) rfl rfl rfl rfl rfl ⟨by decide, (by first | decide | exact Nat.le_of_ble_eq_true rfl), (by first | decide | exact Nat.le_of_ble_eq_true rfl), rfl⟩ (cal_I (calI.mono h64 fun v66 s65 h67 => ?_))
          refine wpl_sl (n := 3) (pc' := 261) (ls' := [none, none, none, none, none, some (.ref 1), some (.int x6), some (.int x7), some (.int x8), some (.int x9), some (.int x10), some (.int x11), some (.int x12), some (.int x13), some (.int x14), some (.int x15), some (.int x16), some (.int x17), some (.int x18), some (.int x19), some (.int x20), some (.int x21), some (.int x22), some (.int y0), some (.int m50), some (.int m53), some (.int m56), some (.int m59), some (.int v63), some (.int v66), none, none, none, none, none, none, none, none, none, none, none, none, none]) (st' := [.int (1 : Int32), .ref 1]) rfl ?_
          refine wpl_v1 (m' := 14) (me' := cm14) (as := [.int (1 : Int32)]) (r := []) rfl rfl rfl rfl rfl ⟨by decide, (by first | decide | exact Nat.le_of_ble_eq_true rfl), (by first | decide | exact Nat.le_of_ble_eq_true rfl), rfl⟩ (cal_I (calI.mono h67 fun v69 s68 h70 => ?_))
          refine wpl_sl (n := 3) (pc' := 269) (ls' := [none, none, none, none, none, some (.ref 1), some (.int x6), some (.int x7), some (.int x8), some (.int x9), some (.int x10), some (.int x11), some (.int x12), some (.int x13), some (.int x14), some (.int x15), some (.int x16), some (.int x17), some (.int x18), some (.int x19), some (.int x20), some (.int x21), some (.int x22), some (.int y0), some (.int m50), some (.int m53), some (.int m56), some (.int m59), some (.int v63), some (.int v66), some (.int v69), none, none, none, none, none, none, none, none, none, none, none, none]) (st' := [.int (1 : Int32), .ref 1]) rfl ?_
          refine wpl_v1 (m' := 15) (me' := cm15) (as := [.int (1 : Int32)]) (r := []) rfl rfl rfl rfl rfl ⟨by decide, (by first | decide | exact Nat.le_of_ble_eq_true rfl), (by first | decide | exact Nat.le_of_ble_eq_true rfl), rfl⟩ (cal_I (calI.mono h70 fun v72 s71 h73 => ?_))
          refine wpl_sl (n := 3) (pc' := 277) (ls' := [none, none, none, none, none, some (.ref 1), some (.int x6), some (.int x7), some (.int x8), some (.int x9), some (.int x10), some (.int x11), some (.int x12), some (.int x13), some (.int x14), some (.int x15), some (.int x16), some (.int x17), some (.int x18), some (.int x19), some (.int x20), some (.int x21), some (.int x22), some (.int y0), some (.int m50), some (.int m53), some (.int m56), some (.int m59), some (.int v63), some (.int v66), some (.int v69), some (.int v72), none, none, none, none, none, none, none, none, none, none, none]) (st' := [.int (2 : Int32), .ref 1]) rfl ?_
          refine wpl_v1 (m' := 14) (me' := cm14) (as := [.int (2 : Int32)]) (r := []) rfl rfl rfl rfl rfl ⟨by decide, (by first | decide | exact Nat.le_of_ble_eq_true rfl), (by first | decide | exact Nat.le_of_ble_eq_true rfl), rfl⟩ (cal_I (calI.mono h73 fun v75 s74 h76 => ?_))
          refine wpl_sl (n := 3) (pc' := 285) (ls' := [none, none, none, none, none, some (.ref 1), some (.int x6), some (.int x7), some (.int x8), some (.int x9), some (.int x10), some (.int x11), some (.int x12), some (.int x13), some (.int x14), some (.int x15), some (.int x16), some (.int x17), some (.int x18), some (.int x19), some (.int x20), some (.int x21), some (.int x22), some (.int y0), some (.int m50), some (.int m53), some (.int m56), some (.int m59), some (.int v63), some (.int v66), some (.int v69), some (.int v72), some (.int v75), none, none, none, none, none, none, none, none, none, none]) (st' := [.int (2 : Int32), .ref 1]) rfl ?_
          refine wpl_v1 (m' := 15) (me' := cm15) (as := [.int (2 : Int32)]) (r := []) rfl rfl rfl rfl rfl ⟨by decide, (by first | decide | exact Nat.le_of_ble_eq_true rfl), (by first | decide | exact Nat.le_of_ble_eq_true rfl), rfl⟩ (cal_I (calI.mono h76 fun v78 s77 h79 => ?_))
          refine wpl_sl (n := 1) (pc' := 290) (ls' := [none, none, none, none, none, some (.ref 1), some (.int x6), some (.int x7), some (.int x8), some (.int x9), some (.int x10), some (.int x11), some (.int x12), some (.int x13), some (.int x14), some (.int x15), some (.int x16), some (.int x17), some (.int x18), some (.int x19), some (.int x20), some (.int x21), some (.int x22), some (.int y0), some (.int m50), some (.int m53), some (.int m56), some (.int m59), some (.int v63), some (.int v66), some (.int v69), some (.int v72), some (.int v75), some (.int v78), none, none, none, none, none, none, none, none, none]) (st' := []) rfl ?_
          exact wpl_lle (ls := [none, none, none, none, none, some (.ref 1), some (.int x6), some (.int x7), some (.int x8), some (.int x9), some (.int x10), some (.int x11), some (.int x12), some (.int x13), some (.int x14), some (.int x15), some (.int x16), some (.int x17), some (.int x18), some (.int x19), some (.int x20), some (.int x21), some (.int x22), none, some (.int m50), some (.int m53), some (.int m56), some (.int m59), some (.int v63), some (.int v66), some (.int v69), some (.int v72), some (.int v75), some (.int v78), none, none, none, none, none, none, none, none, none]) ⟨rfl, rfl, rfl, rfl, rfl, rfl, rfl, rfl, rfl, rfl, rfl, rfl, rfl, rfl, rfl, rfl, rfl, rfl, rfl, rfl, rfl, rfl, rfl, rfl, rfl, rfl, rfl, rfl, trivial⟩ h79
        refine wpl_if (a := 239) (b := 235) rfl (by decide) rfl rfl (wpl_br (p := y0 < (0 : Int32)) ⟨fun hc80 => ?_, fun hc80 => ?_⟩)
        · refine wpl_sl (n := 1) (pc' := 240) (ls' := [none, none, none, none, none, some (.ref 1), some (.int x6), some (.int x7), some (.int x8), some (.int x9), some (.int x10), some (.int x11), some (.int x12), some (.int x13), some (.int x14), some (.int x15), some (.int x16), some (.int x17), some (.int x18), some (.int x19), some (.int x20), some (.int x21), some (.int x22), some (.int y0), some (.int m50), some (.int m53), some (.int m56), none, none, none, none, none, none, none, none, none, none, none, none, none, none, none, none]) (st' := [.int (0 : Int32)]) rfl ?_
          first | exact hm60 _ (by simp only [if_pos hc80]) | exact wpl_lle (by repeat (first | exact trivial | refine ⟨rfl, ?_⟩)) (hm60 _ (by simp only [if_pos hc80]))
        · refine wpl_sl (n := 2) (pc' := 240) (ls' := [none, none, none, none, none, some (.ref 1), some (.int x6), some (.int x7), some (.int x8), some (.int x9), some (.int x10), some (.int x11), some (.int x12), some (.int x13), some (.int x14), some (.int x15), some (.int x16), some (.int x17), some (.int x18), some (.int x19), some (.int x20), some (.int x21), some (.int x22), some (.int y0), some (.int m50), some (.int m53), some (.int m56), none, none, none, none, none, none, none, none, none, none, none, none, none, none, none, none]) (st' := [.int (1 : Int32)]) rfl ?_
          first | exact hm60 _ (by simp only [if_neg hc80]) | exact wpl_lle (by repeat (first | exact trivial | refine ⟨rfl, ?_⟩)) (hm60 _ (by simp only [if_neg hc80]))
      refine wpl_if (a := 227) (b := 223) rfl (by decide) rfl rfl (wpl_br (p := y0 < (0 : Int32)) ⟨fun hc81 => ?_, fun hc81 => ?_⟩)
      · refine wpl_sl (n := 1) (pc' := 228) (ls' := [none, none, none, none, none, some (.ref 1), some (.int x6), some (.int x7), some (.int x8), some (.int x9), some (.int x10), some (.int x11), some (.int x12), some (.int x13), some (.int x14), some (.int x15), some (.int x16), some (.int x17), some (.int x18), some (.int x19), some (.int x20), some (.int x21), some (.int x22), some (.int y0), some (.int m50), some (.int m53), none, none, none, none, none, none, none, none, none, none, none, none, none, none, none, none, none]) (st' := [.int (1 : Int32)]) rfl ?_
        first | exact hm57 _ (by simp only [if_pos hc81]) | exact wpl_lle (by repeat (first | exact trivial | refine ⟨rfl, ?_⟩)) (hm57 _ (by simp only [if_pos hc81]))
      · refine wpl_sl (n := 2) (pc' := 228) (ls' := [none, none, none, none, none, some (.ref 1), some (.int x6), some (.int x7), some (.int x8), some (.int x9), some (.int x10), some (.int x11), some (.int x12), some (.int x13), some (.int x14), some (.int x15), some (.int x16), some (.int x17), some (.int x18), some (.int x19), some (.int x20), some (.int x21), some (.int x22), some (.int y0), some (.int m50), some (.int m53), none, none, none, none, none, none, none, none, none, none, none, none, none, none, none, none, none]) (st' := [.int (2 : Int32)]) rfl ?_
        first | exact hm57 _ (by simp only [if_neg hc81]) | exact wpl_lle (by repeat (first | exact trivial | refine ⟨rfl, ?_⟩)) (hm57 _ (by simp only [if_neg hc81]))
    refine wpl_if (a := 215) (b := 210) rfl (by decide) rfl rfl (wpl_br (p := y0 < (0 : Int32)) ⟨fun hc82 => ?_, fun hc82 => ?_⟩)
    · refine wpl_sl (n := 1) (pc' := 216) (ls' := [none, none, none, none, none, some (.ref 1), some (.int x6), some (.int x7), some (.int x8), some (.int x9), some (.int x10), some (.int x11), some (.int x12), some (.int x13), some (.int x14), some (.int x15), some (.int x16), some (.int x17), some (.int x18), some (.int x19), some (.int x20), some (.int x21), some (.int x22), some (.int y0), some (.int m50), none, none, none, none, none, none, none, none, none, none, none, none, none, none, none, none, none, none]) (st' := [.int (1 : Int32)]) rfl ?_
      first | exact hm54 _ (by simp only [if_pos hc82]) | exact wpl_lle (by repeat (first | exact trivial | refine ⟨rfl, ?_⟩)) (hm54 _ (by simp only [if_pos hc82]))
    · refine wpl_sl (n := 2) (pc' := 216) (ls' := [none, none, none, none, none, some (.ref 1), some (.int x6), some (.int x7), some (.int x8), some (.int x9), some (.int x10), some (.int x11), some (.int x12), some (.int x13), some (.int x14), some (.int x15), some (.int x16), some (.int x17), some (.int x18), some (.int x19), some (.int x20), some (.int x21), some (.int x22), some (.int y0), some (.int m50), none, none, none, none, none, none, none, none, none, none, none, none, none, none, none, none, none, none]) (st' := [.int y0]) rfl ?_
      first | exact hm54 _ (by simp only [if_neg hc82]) | exact wpl_lle (by repeat (first | exact trivial | refine ⟨rfl, ?_⟩)) (hm54 _ (by simp only [if_neg hc82]))
  refine wpl_if (a := 202) (b := 198) rfl (by decide) rfl rfl (wpl_br (p := y0 < (0 : Int32)) ⟨fun hc83 => ?_, fun hc83 => ?_⟩)
  · refine wpl_sl (n := 1) (pc' := 203) (ls' := [none, none, none, none, none, some (.ref 1), some (.int x6), some (.int x7), some (.int x8), some (.int x9), some (.int x10), some (.int x11), some (.int x12), some (.int x13), some (.int x14), some (.int x15), some (.int x16), some (.int x17), some (.int x18), some (.int x19), some (.int x20), some (.int x21), some (.int x22), some (.int y0), none, none, none, none, none, none, none, none, none, none, none, none, none, none, none, none, none, none, none]) (st' := [.int (2 : Int32)]) rfl ?_
    first | exact hm51 _ (by simp only [if_pos hc83]) | exact wpl_lle (by repeat (first | exact trivial | refine ⟨rfl, ?_⟩)) (hm51 _ (by simp only [if_pos hc83]))
  · refine wpl_sl (n := 2) (pc' := 203) (ls' := [none, none, none, none, none, some (.ref 1), some (.int x6), some (.int x7), some (.int x8), some (.int x9), some (.int x10), some (.int x11), some (.int x12), some (.int x13), some (.int x14), some (.int x15), some (.int x16), some (.int x17), some (.int x18), some (.int x19), some (.int x20), some (.int x21), some (.int x22), some (.int y0), none, none, none, none, none, none, none, none, none, none, none, none, none, none, none, none, none, none, none]) (st' := [.int (1 : Int32)]) rfl ?_
    first | exact hm51 _ (by simp only [if_neg hc83]) | exact wpl_lle (by repeat (first | exact trivial | refine ⟨rfl, ?_⟩)) (hm51 _ (by simp only [if_neg hc83]))
theorem l0_290 (x6 : Int32) (x7 : Int32) (x8 : Int32) (x9 : Int32) (x10 : Int32) (x11 : Int32) (x12 : Int32) (x13 : Int32) (x14 : Int32) (x15 : Int32) (x16 : Int32) (x17 : Int32) (x18 : Int32) (x19 : Int32) (x20 : Int32) (x21 : Int32) (x22 : Int32) (x24 : Int32) (x25 : Int32) (x26 : Int32) (x27 : Int32) (x28 : Int32) (x29 : Int32) (x30 : Int32) (x31 : Int32) (x32 : Int32) (x33 : Int32)  (Q : Int32 → Wd → Prop) (h : calI PP 7 10 [.ref 0] s (fun v85 s84 => calI PP 17 10 [.ref 0, .int (0 : Int32)] s84 (fun v88 s87 => calI PP 17 10 [.ref 0, .int (1 : Int32)] s87 (fun v91 s90 => calI PP 17 10 [.ref 0, .int (2 : Int32)] s90 (fun v94 s93 => calI PP 17 10 [.ref 0, .int (3 : Int32)] s93 (fun v97 s96 => calI PP 17 10 [.ref 0, .int (4 : Int32)] s96 (fun v100 s99 => wplI PP QQ none 0 lm0 337 [none, none, none, none, none, none, some (.int x6), some (.int x7), some (.int x8), some (.int x9), some (.int x10), some (.int x11), some (.int x12), some (.int x13), some (.int x14), some (.int x15), some (.int x16), some (.int x17), some (.int x18), some (.int x19), some (.int x20), some (.int x21), some (.int x22), none, some (.int x24), some (.int x25), some (.int x26), some (.int x27), some (.int x28), some (.int x29), some (.int x30), some (.int x31), some (.int x32), some (.int x33), some (.int v85), some (.int v88), some (.int v91), some (.int v94), some (.int v97), some (.int v100), none, none, none] [] (W1 s99) Q))))))) : wplI PP QQ none 0 lm0 290 [none, none, none, none, none, some (.ref 1), some (.int x6), some (.int x7), some (.int x8), some (.int x9), some (.int x10), some (.int x11), some (.int x12), some (.int x13), some (.int x14), some (.int x15), some (.int x16), some (.int x17), some (.int x18), some (.int x19), some (.int x20), some (.int x21), some (.int x22), none, some (.int x24), some (.int x25), some (.int x26), some (.int x27), some (.int x28), some (.int x29), some (.int x30), some (.int x31), some (.int x32), some (.int x33), none, none, none, none, none, none, none, none, none] [] (W1 s) Q := by
  refine wpl_sl (n := 1) (pc' := 292) (ls' := [none, none, none, none, none, some (.ref 1), some (.int x6), some (.int x7), some (.int x8), some (.int x9), some (.int x10), some (.int x11), some (.int x12), some (.int x13), some (.int x14), some (.int x15), some (.int x16), some (.int x17), some (.int x18), some (.int x19), some (.int x20), some (.int x21), some (.int x22), none, some (.int x24), some (.int x25), some (.int x26), some (.int x27), some (.int x28), some (.int x29), some (.int x30), some (.int x31), some (.int x32), some (.int x33), none, none, none, none, none, none, none, none, none]) (st' := [.ref 1]) rfl ?_
  refine wpl_v1 (m' := 7) (me' := cm7) (as := []) (r := []) rfl rfl rfl rfl rfl ⟨by decide, (by first | decide | exact Nat.le_of_ble_eq_true rfl), (by first | decide | exact Nat.le_of_ble_eq_true rfl), rfl⟩ (cal_I (calI.mono h fun v85 s84 h86 => ?_))
  refine wpl_sl (n := 3) (pc' := 300) (ls' := [none, none, none, none, none, some (.ref 1), some (.int x6), some (.int x7), some (.int x8), some (.int x9), some (.int x10), some (.int x11), some (.int x12), some (.int x13), some (.int x14), some (.int x15), some (.int x16), some (.int x17), some (.int x18), some (.int x19), some (.int x20), some (.int x21), some (.int x22), none, some (.int x24), some (.int x25), some (.int x26), some (.int x27), some (.int x28), some (.int x29), some (.int x30), some (.int x31), some (.int x32), some (.int x33), some (.int v85), none, none, none, none, none, none, none, none]) (st' := [.int (0 : Int32), .ref 1]) rfl ?_
  refine wpl_v1 (m' := 17) (me' := cm17) (as := [.int (0 : Int32)]) (r := []) rfl rfl rfl rfl rfl ⟨by decide, (by first | decide | exact Nat.le_of_ble_eq_true rfl), (by first | decide | exact Nat.le_of_ble_eq_true rfl), rfl⟩ (cal_I (calI.mono h86 fun v88 s87 h89 => ?_))
  refine wpl_sl (n := 3) (pc' := 308) (ls' := [none, none, none, none, none, some (.ref 1), some (.int x6), some (.int x7), some (.int x8), some (.int x9), some (.int x10), some (.int x11), some (.int x12), some (.int x13), some (.int x14), some (.int x15), some (.int x16), some (.int x17), some (.int x18), some (.int x19), some (.int x20), some (.int x21), some (.int x22), none, some (.int x24), some (.int x25), some (.int x26), some (.int x27), some (.int x28), some (.int x29), some (.int x30), some (.int x31), some (.int x32), some (.int x33), some (.int v85), some (.int v88), none, none, none, none, none, none, none]) (st' := [.int (1 : Int32), .ref 1]) rfl ?_
  refine wpl_v1 (m' := 17) (me' := cm17) (as := [.int (1 : Int32)]) (r := []) rfl rfl rfl rfl rfl ⟨by decide, (by first | decide | exact Nat.le_of_ble_eq_true rfl), (by first | decide | exact Nat.le_of_ble_eq_true rfl), rfl⟩ (cal_I (calI.mono h89 fun v91 s90 h92 => ?_))
  refine wpl_sl (n := 3) (pc' := 316) (ls' := [none, none, none, none, none, some (.ref 1), some (.int x6), some (.int x7), some (.int x8), some (.int x9), some (.int x10), some (.int x11), some (.int x12), some (.int x13), some (.int x14), some (.int x15), some (.int x16), some (.int x17), some (.int x18), some (.int x19), some (.int x20), some (.int x21), some (.int x22), none, some (.int x24), some (.int x25), some (.int x26), some (.int x27), some (.int x28), some (.int x29), some (.int x30), some (.int x31), some (.int x32), some (.int x33), some (.int v85), some (.int v88), some (.int v91), none, none, none, none, none, none]) (st' := [.int (2 : Int32), .ref 1]) rfl ?_
  refine wpl_v1 (m' := 17) (me' := cm17) (as := [.int (2 : Int32)]) (r := []) rfl rfl rfl rfl rfl ⟨by decide, (by first | decide | exact Nat.le_of_ble_eq_true rfl), (by first | decide | exact Nat.le_of_ble_eq_true rfl), rfl⟩ (cal_I (calI.mono h92 fun v94 s93 h95 => ?_))
  refine wpl_sl (n := 3) (pc' := 324) (ls' := [none, none, none, none, none, some (.ref 1), some (.int x6), some (.int x7), some (.int x8), some (.int x9), some (.int x10), some (.int x11), some (.int x12), some (.int x13), some (.int x14), some (.int x15), some (.int x16), some (.int x17), some (.int x18), some (.int x19), some (.int x20), some (.int x21), some (.int x22), none, some (.int x24), some (.int x25), some (.int x26), some (.int x27), some (.int x28), some (.int x29), some (.int x30), some (.int x31), some (.int x32), some (.int x33), some (.int v85), some (.int v88), some (.int v91), some (.int v94), none, none, none, none, none]) (st' := [.int (3 : Int32), .ref 1]) rfl ?_
  refine wpl_v1 (m' := 17) (me' := cm17) (as := [.int (3 : Int32)]) (r := []) rfl rfl rfl rfl rfl ⟨by decide, (by first | decide | exact Nat.le_of_ble_eq_true rfl), (by first | decide | exact Nat.le_of_ble_eq_true rfl), rfl⟩ (cal_I (calI.mono h95 fun v97 s96 h98 => ?_))
  refine wpl_sl (n := 3) (pc' := 332) (ls' := [none, none, none, none, none, some (.ref 1), some (.int x6), some (.int x7), some (.int x8), some (.int x9), some (.int x10), some (.int x11), some (.int x12), some (.int x13), some (.int x14), some (.int x15), some (.int x16), some (.int x17), some (.int x18), some (.int x19), some (.int x20), some (.int x21), some (.int x22), none, some (.int x24), some (.int x25), some (.int x26), some (.int x27), some (.int x28), some (.int x29), some (.int x30), some (.int x31), some (.int x32), some (.int x33), some (.int v85), some (.int v88), some (.int v91), some (.int v94), some (.int v97), none, none, none, none]) (st' := [.int (4 : Int32), .ref 1]) rfl ?_
  refine wpl_v1 (m' := 17) (me' := cm17) (as := [.int (4 : Int32)]) (r := []) rfl rfl rfl rfl rfl ⟨by decide, (by first | decide | exact Nat.le_of_ble_eq_true rfl), (by first | decide | exact Nat.le_of_ble_eq_true rfl), rfl⟩ (cal_I (calI.mono h98 fun v100 s99 h101 => ?_))
  refine wpl_sl (n := 1) (pc' := 337) (ls' := [none, none, none, none, none, some (.ref 1), some (.int x6), some (.int x7), some (.int x8), some (.int x9), some (.int x10), some (.int x11), some (.int x12), some (.int x13), some (.int x14), some (.int x15), some (.int x16), some (.int x17), some (.int x18), some (.int x19), some (.int x20), some (.int x21), some (.int x22), none, some (.int x24), some (.int x25), some (.int x26), some (.int x27), some (.int x28), some (.int x29), some (.int x30), some (.int x31), some (.int x32), some (.int x33), some (.int v85), some (.int v88), some (.int v91), some (.int v94), some (.int v97), some (.int v100), none, none, none]) (st' := []) rfl ?_
  exact wpl_lle (ls := [none, none, none, none, none, none, some (.int x6), some (.int x7), some (.int x8), some (.int x9), some (.int x10), some (.int x11), some (.int x12), some (.int x13), some (.int x14), some (.int x15), some (.int x16), some (.int x17), some (.int x18), some (.int x19), some (.int x20), some (.int x21), some (.int x22), none, some (.int x24), some (.int x25), some (.int x26), some (.int x27), some (.int x28), some (.int x29), some (.int x30), some (.int x31), some (.int x32), some (.int x33), some (.int v85), some (.int v88), some (.int v91), some (.int v94), some (.int v97), some (.int v100), none, none, none]) ⟨rfl, rfl, rfl, rfl, rfl, rfl, rfl, rfl, rfl, rfl, rfl, rfl, rfl, rfl, rfl, rfl, rfl, rfl, rfl, rfl, rfl, rfl, rfl, rfl, rfl, rfl, rfl, rfl, rfl, rfl, rfl, rfl, rfl, trivial⟩ h101
theorem l0_337 (x6 : Int32) (x7 : Int32) (x8 : Int32) (x9 : Int32) (x10 : Int32) (x11 : Int32) (x12 : Int32) (x13 : Int32) (x14 : Int32) (x15 : Int32) (x16 : Int32) (x17 : Int32) (x18 : Int32) (x19 : Int32) (x20 : Int32) (x21 : Int32) (x22 : Int32) (x24 : Int32) (x25 : Int32) (x26 : Int32) (x27 : Int32) (x28 : Int32) (x29 : Int32) (x30 : Int32) (x31 : Int32) (x32 : Int32) (x33 : Int32) (x34 : Int32) (x35 : Int32) (x36 : Int32) (x37 : Int32) (x38 : Int32) (x39 : Int32)  (Q : Int32 → Wd → Prop) (h : ∀ m102, m102 = (if x11 = (0 : Int32) then (0 : Int32) else (if x12 = (0 : Int32) then (0 : Int32) else (if x13 = (0 : Int32) then (0 : Int32) else (if x14 = (0 : Int32) then (0 : Int32) else (if x16 = (0 : Int32) then (0 : Int32) else (if x17 = (0 : Int32) then (0 : Int32) else (if x18 = (0 : Int32) then (0 : Int32) else (if x19 = (0 : Int32) then (0 : Int32) else (if x20 = (0 : Int32) then (0 : Int32) else (1 : Int32)))))))))) → (wplI PP QQ none 0 lm0 387 [none, none, none, none, none, none, some (.int x6), some (.int x7), some (.int x8), some (.int x9), some (.int x10), none, none, none, none, some (.int x15), none, none, none, none, none, some (.int x21), some (.int x22), none, some (.int x24), some (.int x25), some (.int x26), some (.int x27), some (.int x28), some (.int x29), some (.int x30), some (.int x31), some (.int x32), some (.int x33), some (.int x34), some (.int x35), some (.int x36), some (.int x37), some (.int x38), some (.int x39), none, none, none] [.int m102] (W1 s) Q)) : wplI PP QQ none 0 lm0 337 [none, none, none, none, none, none, some (.int x6), some (.int x7), some (.int x8), some (.int x9), some (.int x10), some (.int x11), some (.int x12), some (.int x13), some (.int x14), some (.int x15), some (.int x16), some (.int x17), some (.int x18), some (.int x19), some (.int x20), some (.int x21), some (.int x22), none, some (.int x24), some (.int x25), some (.int x26), some (.int x27), some (.int x28), some (.int x29), some (.int x30), some (.int x31), some (.int x32), some (.int x33), some (.int x34), some (.int x35), some (.int x36), some (.int x37), some (.int x38), some (.int x39), none, none, none] [] (W1 s) Q := by
  refine wpl_sl (n := 1) (pc' := 339) (ls' := [none, none, none, none, none, none, some (.int x6), some (.int x7), some (.int x8), some (.int x9), some (.int x10), some (.int x11), some (.int x12), some (.int x13), some (.int x14), some (.int x15), some (.int x16), some (.int x17), some (.int x18), some (.int x19), some (.int x20), some (.int x21), some (.int x22), none, some (.int x24), some (.int x25), some (.int x26), some (.int x27), some (.int x28), some (.int x29), some (.int x30), some (.int x31), some (.int x32), some (.int x33), some (.int x34), some (.int x35), some (.int x36), some (.int x37), some (.int x38), some (.int x39), none, none, none]) (st' := [.int x11]) rfl ?_
  have hm103 : ∀ m102, m102 = (if x11 = (0 : Int32) then (0 : Int32) else (if x12 = (0 : Int32) then (0 : Int32) else (if x13 = (0 : Int32) then (0 : Int32) else (if x14 = (0 : Int32) then (0 : Int32) else (if x16 = (0 : Int32) then (0 : Int32) else (if x17 = (0 : Int32) then (0 : Int32) else (if x18 = (0 : Int32) then (0 : Int32) else (if x19 = (0 : Int32) then (0 : Int32) else (if x20 = (0 : Int32) then (0 : Int32) else (1 : Int32)))))))))) → wplI PP QQ none 0 lm0 387 [none, none, none, none, none, none, some (.int x6), some (.int x7), some (.int x8), some (.int x9), some (.int x10), some (.int x11), some (.int x12), some (.int x13), some (.int x14), some (.int x15), some (.int x16), some (.int x17), some (.int x18), some (.int x19), some (.int x20), some (.int x21), some (.int x22), none, some (.int x24), some (.int x25), some (.int x26), some (.int x27), some (.int x28), some (.int x29), some (.int x30), some (.int x31), some (.int x32), some (.int x33), some (.int x34), some (.int x35), some (.int x36), some (.int x37), some (.int x38), some (.int x39), none, none, none] [.int m102] (W1 s) Q := by
    intro m102 em102
    have h104 := h m102 em102
    exact wpl_lle (ls := [none, none, none, none, none, none, some (.int x6), some (.int x7), some (.int x8), some (.int x9), some (.int x10), none, none, none, none, some (.int x15), none, none, none, none, none, some (.int x21), some (.int x22), none, some (.int x24), some (.int x25), some (.int x26), some (.int x27), some (.int x28), some (.int x29), some (.int x30), some (.int x31), some (.int x32), some (.int x33), some (.int x34), some (.int x35), some (.int x36), some (.int x37), some (.int x38), some (.int x39), none, none, none]) ⟨rfl, rfl, rfl, rfl, rfl, rfl, rfl, rfl, rfl, rfl, rfl, rfl, rfl, rfl, rfl, rfl, rfl, rfl, rfl, rfl, rfl, rfl, rfl, rfl, trivial⟩ h104
  refine wpl_if (a := 386) (b := 342) rfl (by decide) rfl rfl (wpl_br (p := x11 = (0 : Int32)) ⟨fun hc105 => ?_, fun hc105 => ?_⟩)
  · refine wpl_sl (n := 1) (pc' := 387) (ls' := [none, none, none, none, none, none, some (.int x6), some (.int x7), some (.int x8), some (.int x9), some (.int x10), some (.int x11), some (.int x12), some (.int x13), some (.int x14), some (.int x15), some (.int x16), some (.int x17), some (.int x18), some (.int x19), some (.int x20), some (.int x21), some (.int x22), none, some (.int x24), some (.int x25), some (.int x26), some (.int x27), some (.int x28), some (.int x29), some (.int x30), some (.int x31), some (.int x32), some (.int x33), some (.int x34), some (.int x35), some (.int x36), some (.int x37), some (.int x38), some (.int x39), none, none, none]) (st' := [.int (0 : Int32)]) rfl ?_
    first | exact hm103 _ (by simp only [if_pos hc105]) | exact wpl_lle (by repeat (first | exact trivial | refine ⟨rfl, ?_⟩)) (hm103 _ (by simp only [if_pos hc105]))
  · refine wpl_sl (n := 1) (pc' := 344) (ls' := [none, none, none, none, none, none, some (.int x6), some (.int x7), some (.int x8), some (.int x9), some (.int x10), some (.int x11), some (.int x12), some (.int x13), some (.int x14), some (.int x15), some (.int x16), some (.int x17), some (.int x18), some (.int x19), some (.int x20), some (.int x21), some (.int x22), none, some (.int x24), some (.int x25), some (.int x26), some (.int x27), some (.int x28), some (.int x29), some (.int x30), some (.int x31), some (.int x32), some (.int x33), some (.int x34), some (.int x35), some (.int x36), some (.int x37), some (.int x38), some (.int x39), none, none, none]) (st' := [.int x12]) rfl ?_
    refine wpl_if (a := 386) (b := 347) rfl (by decide) rfl rfl (wpl_br (p := x12 = (0 : Int32)) ⟨fun hc106 => ?_, fun hc106 => ?_⟩)
    · refine wpl_sl (n := 1) (pc' := 387) (ls' := [none, none, none, none, none, none, some (.int x6), some (.int x7), some (.int x8), some (.int x9), some (.int x10), some (.int x11), some (.int x12), some (.int x13), some (.int x14), some (.int x15), some (.int x16), some (.int x17), some (.int x18), some (.int x19), some (.int x20), some (.int x21), some (.int x22), none, some (.int x24), some (.int x25), some (.int x26), some (.int x27), some (.int x28), some (.int x29), some (.int x30), some (.int x31), some (.int x32), some (.int x33), some (.int x34), some (.int x35), some (.int x36), some (.int x37), some (.int x38), some (.int x39), none, none, none]) (st' := [.int (0 : Int32)]) rfl ?_
      first | exact hm103 _ (by simp only [if_neg hc105, if_pos hc106]) | exact wpl_lle (by repeat (first | exact trivial | refine ⟨rfl, ?_⟩)) (hm103 _ (by simp only [if_neg hc105, if_pos hc106]))
    · refine wpl_sl (n := 1) (pc' := 349) (ls' := [none, none, none, none, none, none, some (.int x6), some (.int x7), some (.int x8), some (.int x9), some (.int x10), some (.int x11), some (.int x12), some (.int x13), some (.int x14), some (.int x15), some (.int x16), some (.int x17), some (.int x18), some (.int x19), some (.int x20), some (.int x21), some (.int x22), none, some (.int x24), some (.int x25), some (.int x26), some (.int x27), some (.int x28), some (.int x29), some (.int x30), some (.int x31), some (.int x32), some (.int x33), some (.int x34), some (.int x35), some (.int x36), some (.int x37), some (.int x38), some (.int x39), none, none, none]) (st' := [.int x13]) rfl ?_
      refine wpl_if (a := 386) (b := 352) rfl (by decide) rfl rfl (wpl_br (p := x13 = (0 : Int32)) ⟨fun hc107 => ?_, fun hc107 => ?_⟩)
      · refine wpl_sl (n := 1) (pc' := 387) (ls' := [none, none, none, none, none, none, some (.int x6), some (.int x7), some (.int x8), some (.int x9), some (.int x10), some (.int x11), some (.int x12), some (.int x13), some (.int x14), some (.int x15), some (.int x16), some (.int x17), some (.int x18), some (.int x19), some (.int x20), some (.int x21), some (.int x22), none, some (.int x24), some (.int x25), some (.int x26), some (.int x27), some (.int x28), some (.int x29), some (.int x30), some (.int x31), some (.int x32), some (.int x33), some (.int x34), some (.int x35), some (.int x36), some (.int x37), some (.int x38), some (.int x39), none, none, none]) (st' := [.int (0 : Int32)]) rfl ?_
        first | exact hm103 _ (by simp only [if_neg hc105, if_neg hc106, if_pos hc107]) | exact wpl_lle (by repeat (first | exact trivial | refine ⟨rfl, ?_⟩)) (hm103 _ (by simp only [if_neg hc105, if_neg hc106, if_pos hc107]))
      · refine wpl_sl (n := 1) (pc' := 354) (ls' := [none, none, none, none, none, none, some (.int x6), some (.int x7), some (.int x8), some (.int x9), some (.int x10), some (.int x11), some (.int x12), some (.int x13), some (.int x14), some (.int x15), some (.int x16), some (.int x17), some (.int x18), some (.int x19), some (.int x20), some (.int x21), some (.int x22), none, some (.int x24), some (.int x25), some (.int x26), some (.int x27), some (.int x28), some (.int x29), some (.int x30), some (.int x31), some (.int x32), some (.int x33), some (.int x34), some (.int x35), some (.int x36), some (.int x37), some (.int x38), some (.int x39), none, none, none]) (st' := [.int x14]) rfl ?_
        refine wpl_if (a := 386) (b := 357) rfl (by decide) rfl rfl (wpl_br (p := x14 = (0 : Int32)) ⟨fun hc108 => ?_, fun hc108 => ?_⟩)
        · refine wpl_sl (n := 1) (pc' := 387) (ls' := [none, none, none, none, none, none, some (.int x6), some (.int x7), some (.int x8), some (.int x9), some (.int x10), some (.int x11), some (.int x12), some (.int x13), some (.int x14), some (.int x15), some (.int x16), some (.int x17), some (.int x18), some (.int x19), some (.int x20), some (.int x21), some (.int x22), none, some (.int x24), some (.int x25), some (.int x26), some (.int x27), some (.int x28), some (.int x29), some (.int x30), some (.int x31), some (.int x32), some (.int x33), some (.int x34), some (.int x35), some (.int x36), some (.int x37), some (.int x38), some (.int x39), none, none, none]) (st' := [.int (0 : Int32)]) rfl ?_
          first | exact hm103 _ (by simp only [if_neg hc105, if_neg hc106, if_neg hc107, if_pos hc108]) | exact wpl_lle (by repeat (first | exact trivial | refine ⟨rfl, ?_⟩)) (hm103 _ (by simp only [if_neg hc105, if_neg hc106, if_neg hc107, if_pos hc108]))
        · refine wpl_sl (n := 1) (pc' := 359) (ls' := [none, none, none, none, none, none, some (.int x6), some (.int x7), some (.int x8), some (.int x9), some (.int x10), some (.int x11), some (.int x12), some (.int x13), some (.int x14), some (.int x15), some (.int x16), some (.int x17), some (.int x18), some (.int x19), some (.int x20), some (.int x21), some (.int x22), none, some (.int x24), some (.int x25), some (.int x26), some (.int x27), some (.int x28), some (.int x29), some (.int x30), some (.int x31), some (.int x32), some (.int x33), some (.int x34), some (.int x35), some (.int x36), some (.int x37), some (.int x38), some (.int x39), none, none, none]) (st' := [.int x16]) rfl ?_
          refine wpl_if (a := 386) (b := 362) rfl (by decide) rfl rfl (wpl_br (p := x16 = (0 : Int32)) ⟨fun hc109 => ?_, fun hc109 => ?_⟩)
          · refine wpl_sl (n := 1) (pc' := 387) (ls' := [none, none, none, none, none, none, some (.int x6), some (.int x7), some (.int x8), some (.int x9), some (.int x10), some (.int x11), some (.int x12), some (.int x13), some (.int x14), some (.int x15), some (.int x16), some (.int x17), some (.int x18), some (.int x19), some (.int x20), some (.int x21), some (.int x22), none, some (.int x24), some (.int x25), some (.int x26), some (.int x27), some (.int x28), some (.int x29), some (.int x30), some (.int x31), some (.int x32), some (.int x33), some (.int x34), some (.int x35), some (.int x36), some (.int x37), some (.int x38), some (.int x39), none, none, none]) (st' := [.int (0 : Int32)]) rfl ?_
            first | exact hm103 _ (by simp only [if_neg hc105, if_neg hc106, if_neg hc107, if_neg hc108, if_pos hc109]) | exact wpl_lle (by repeat (first | exact trivial | refine ⟨rfl, ?_⟩)) (hm103 _ (by simp only [if_neg hc105, if_neg hc106, if_neg hc107, if_neg hc108, if_pos hc109]))
          · refine wpl_sl (n := 1) (pc' := 364) (ls' := [none, none, none, none, none, none, some (.int x6), some (.int x7), some (.int x8), some (.int x9), some (.int x10), some (.int x11), some (.int x12), some (.int x13), some (.int x14), some (.int x15), some (.int x16), some (.int x17), some (.int x18), some (.int x19), some (.int x20), some (.int x21), some (.int x22), none, some (.int x24), some (.int x25), some (.int x26), some (.int x27), some (.int x28), some (.int x29), some (.int x30), some (.int x31), some (.int x32), some (.int x33), some (.int x34), some (.int x35), some (.int x36), some (.int x37), some (.int x38), some (.int x39), none, none, none]) (st' := [.int x17]) rfl ?_
            refine wpl_if (a := 386) (b := 367) rfl (by decide) rfl rfl (wpl_br (p := x17 = (0 : Int32)) ⟨fun hc110 => ?_, fun hc110 => ?_⟩)
            · refine wpl_sl (n := 1) (pc' := 387) (ls' := [none, none, none, none, none, none, some (.int x6), some (.int x7), some (.int x8), some (.int x9), some (.int x10), some (.int x11), some (.int x12), some (.int x13), some (.int x14), some (.int x15), some (.int x16), some (.int x17), some (.int x18), some (.int x19), some (.int x20), some (.int x21), some (.int x22), none, some (.int x24), some (.int x25), some (.int x26), some (.int x27), some (.int x28), some (.int x29), some (.int x30), some (.int x31), some (.int x32), some (.int x33), some (.int x34), some (.int x35), some (.int x36), some (.int x37), some (.int x38), some (.int x39), none, none, none]) (st' := [.int (0 : Int32)]) rfl ?_
              first | exact hm103 _ (by simp only [if_neg hc105, if_neg hc106, if_neg hc107, if_neg hc108, if_neg hc109, if_pos hc110]) | exact wpl_lle (by repeat (first | exact trivial | refine ⟨rfl, ?_⟩)) (hm103 _ (by simp only [if_neg hc105, if_neg hc106, if_neg hc107, if_neg hc108, if_neg hc109, if_pos hc110]))
            · refine wpl_sl (n := 1) (pc' := 369) (ls' := [none, none, none, none, none, none, some (.int x6), some (.int x7), some (.int x8), some (.int x9), some (.int x10), some (.int x11), some (.int x12), some (.int x13), some (.int x14), some (.int x15), some (.int x16), some (.int x17), some (.int x18), some (.int x19), some (.int x20), some (.int x21), some (.int x22), none, some (.int x24), some (.int x25), some (.int x26), some (.int x27), some (.int x28), some (.int x29), some (.int x30), some (.int x31), some (.int x32), some (.int x33), some (.int x34), some (.int x35), some (.int x36), some (.int x37), some (.int x38), some (.int x39), none, none, none]) (st' := [.int x18]) rfl ?_
              refine wpl_if (a := 386) (b := 372) rfl (by decide) rfl rfl (wpl_br (p := x18 = (0 : Int32)) ⟨fun hc111 => ?_, fun hc111 => ?_⟩)
              · refine wpl_sl (n := 1) (pc' := 387) (ls' := [none, none, none, none, none, none, some (.int x6), some (.int x7), some (.int x8), some (.int x9), some (.int x10), some (.int x11), some (.int x12), some (.int x13), some (.int x14), some (.int x15), some (.int x16), some (.int x17), some (.int x18), some (.int x19), some (.int x20), some (.int x21), some (.int x22), none, some (.int x24), some (.int x25), some (.int x26), some (.int x27), some (.int x28), some (.int x29), some (.int x30), some (.int x31), some (.int x32), some (.int x33), some (.int x34), some (.int x35), some (.int x36), some (.int x37), some (.int x38), some (.int x39), none, none, none]) (st' := [.int (0 : Int32)]) rfl ?_
                first | exact hm103 _ (by simp only [if_neg hc105, if_neg hc106, if_neg hc107, if_neg hc108, if_neg hc109, if_neg hc110, if_pos hc111]) | exact wpl_lle (by repeat (first | exact trivial | refine ⟨rfl, ?_⟩)) (hm103 _ (by simp only [if_neg hc105, if_neg hc106, if_neg hc107, if_neg hc108, if_neg hc109, if_neg hc110, if_pos hc111]))
              · refine wpl_sl (n := 1) (pc' := 374) (ls' := [none, none, none, none, none, none, some (.int x6), some (.int x7), some (.int x8), some (.int x9), some (.int x10), some (.int x11), some (.int x12), some (.int x13), some (.int x14), some (.int x15), some (.int x16), some (.int x17), some (.int x18), some (.int x19), some (.int x20), some (.int x21), some (.int x22), none, some (.int x24), some (.int x25), some (.int x26), some (.int x27), some (.int x28), some (.int x29), some (.int x30), some (.int x31), some (.int x32), some (.int x33), some (.int x34), some (.int x35), some (.int x36), some (.int x37), some (.int x38), some (.int x39), none, none, none]) (st' := [.int x19]) rfl ?_
                refine wpl_if (a := 386) (b := 377) rfl (by decide) rfl rfl (wpl_br (p := x19 = (0 : Int32)) ⟨fun hc112 => ?_, fun hc112 => ?_⟩)
                · refine wpl_sl (n := 1) (pc' := 387) (ls' := [none, none, none, none, none, none, some (.int x6), some (.int x7), some (.int x8), some (.int x9), some (.int x10), some (.int x11), some (.int x12), some (.int x13), some (.int x14), some (.int x15), some (.int x16), some (.int x17), some (.int x18), some (.int x19), some (.int x20), some (.int x21), some (.int x22), none, some (.int x24), some (.int x25), some (.int x26), some (.int x27), some (.int x28), some (.int x29), some (.int x30), some (.int x31), some (.int x32), some (.int x33), some (.int x34), some (.int x35), some (.int x36), some (.int x37), some (.int x38), some (.int x39), none, none, none]) (st' := [.int (0 : Int32)]) rfl ?_
                  first | exact hm103 _ (by simp only [if_neg hc105, if_neg hc106, if_neg hc107, if_neg hc108, if_neg hc109, if_neg hc110, if_neg hc111, if_pos hc112]) | exact wpl_lle (by repeat (first | exact trivial | refine ⟨rfl, ?_⟩)) (hm103 _ (by simp only [if_neg hc105, if_neg hc106, if_neg hc107, if_neg hc108, if_neg hc109, if_neg hc110, if_neg hc111, if_pos hc112]))
                · refine wpl_sl (n := 1) (pc' := 379) (ls' := [none, none, none, none, none, none, some (.int x6), some (.int x7), some (.int x8), some (.int x9), some (.int x10), some (.int x11), some (.int x12), some (.int x13), some (.int x14), some (.int x15), some (.int x16), some (.int x17), some (.int x18), some (.int x19), some (.int x20), some (.int x21), some (.int x22), none, some (.int x24), some (.int x25), some (.int x26), some (.int x27), some (.int x28), some (.int x29), some (.int x30), some (.int x31), some (.int x32), some (.int x33), some (.int x34), some (.int x35), some (.int x36), some (.int x37), some (.int x38), some (.int x39), none, none, none]) (st' := [.int x20]) rfl ?_
                  refine wpl_if (a := 386) (b := 382) rfl (by decide) rfl rfl (wpl_br (p := x20 = (0 : Int32)) ⟨fun hc113 => ?_, fun hc113 => ?_⟩)
                  · refine wpl_sl (n := 1) (pc' := 387) (ls' := [none, none, none, none, none, none, some (.int x6), some (.int x7), some (.int x8), some (.int x9), some (.int x10), some (.int x11), some (.int x12), some (.int x13), some (.int x14), some (.int x15), some (.int x16), some (.int x17), some (.int x18), some (.int x19), some (.int x20), some (.int x21), some (.int x22), none, some (.int x24), some (.int x25), some (.int x26), some (.int x27), some (.int x28), some (.int x29), some (.int x30), some (.int x31), some (.int x32), some (.int x33), some (.int x34), some (.int x35), some (.int x36), some (.int x37), some (.int x38), some (.int x39), none, none, none]) (st' := [.int (0 : Int32)]) rfl ?_
                    first | exact hm103 _ (by simp only [if_neg hc105, if_neg hc106, if_neg hc107, if_neg hc108, if_neg hc109, if_neg hc110, if_neg hc111, if_neg hc112, if_pos hc113]) | exact wpl_lle (by repeat (first | exact trivial | refine ⟨rfl, ?_⟩)) (hm103 _ (by simp only [if_neg hc105, if_neg hc106, if_neg hc107, if_neg hc108, if_neg hc109, if_neg hc110, if_neg hc111, if_neg hc112, if_pos hc113]))
                  · refine wpl_sl (n := 2) (pc' := 387) (ls' := [none, none, none, none, none, none, some (.int x6), some (.int x7), some (.int x8), some (.int x9), some (.int x10), some (.int x11), some (.int x12), some (.int x13), some (.int x14), some (.int x15), some (.int x16), some (.int x17), some (.int x18), some (.int x19), some (.int x20), some (.int x21), some (.int x22), none, some (.int x24), some (.int x25), some (.int x26), some (.int x27), some (.int x28), some (.int x29), some (.int x30), some (.int x31), some (.int x32), some (.int x33), some (.int x34), some (.int x35), some (.int x36), some (.int x37), some (.int x38), some (.int x39), none, none, none]) (st' := [.int (1 : Int32)]) rfl ?_
                    first | exact hm103 _ (by simp only [if_neg hc105, if_neg hc106, if_neg hc107, if_neg hc108, if_neg hc109, if_neg hc110, if_neg hc111, if_neg hc112, if_neg hc113]) | exact wpl_lle (by repeat (first | exact trivial | refine ⟨rfl, ?_⟩)) (hm103 _ (by simp only [if_neg hc105, if_neg hc106, if_neg hc107, if_neg hc108, if_neg hc109, if_neg hc110, if_neg hc111, if_neg hc112, if_neg hc113]))
theorem l0_387 (x6 : Int32) (x7 : Int32) (x8 : Int32) (x9 : Int32) (x10 : Int32) (x15 : Int32) (x21 : Int32) (x22 : Int32) (x24 : Int32) (x25 : Int32) (x26 : Int32) (x27 : Int32) (x28 : Int32) (x29 : Int32) (x30 : Int32) (x31 : Int32) (x32 : Int32) (x33 : Int32) (x34 : Int32) (x35 : Int32) (x36 : Int32) (x37 : Int32) (x38 : Int32) (x39 : Int32) (y0 : Int32)  (Q : Int32 → Wd → Prop) (h : ∀ m114, m114 = (if x21 = (3 : Int32) then (if x28 = (1 : Int32) then (if x29 = x22 then (if x30 = x24 then (if x31 = x25 then (if x32 = x26 then (if x33 = x27 then (1 : Int32) else (0 : Int32)) else (0 : Int32)) else (0 : Int32)) else (0 : Int32)) else (0 : Int32)) else (0 : Int32)) else (0 : Int32)) → (wplI PP QQ none 0 lm0 441 [none, none, none, none, none, none, some (.int x6), some (.int x7), some (.int x8), some (.int x9), some (.int x10), none, none, none, none, some (.int x15), none, none, none, none, none, none, none, none, none, none, none, none, none, none, none, none, none, none, some (.int x34), some (.int x35), some (.int x36), some (.int x37), some (.int x38), some (.int x39), some (.int y0), none, none] [.int m114] (W1 s) Q)) : wplI PP QQ none 0 lm0 387 [none, none, none, none, none, none, some (.int x6), some (.int x7), some (.int x8), some (.int x9), some (.int x10), none, none, none, none, some (.int x15), none, none, none, none, none, some (.int x21), some (.int x22), none, some (.int x24), some (.int x25), some (.int x26), some (.int x27), some (.int x28), some (.int x29), some (.int x30), some (.int x31), some (.int x32), some (.int x33), some (.int x34), some (.int x35), some (.int x36), some (.int x37), some (.int x38), some (.int x39), none, none, none] [.int y0] (W1 s) Q := by
  refine wpl_sl (n := 3) (pc' := 392) (ls' := [none, none, none, none, none, none, some (.int x6), some (.int x7), some (.int x8), some (.int x9), some (.int x10), none, none, none, none, some (.int x15), none, none, none, none, none, some (.int x21), some (.int x22), none, some (.int x24), some (.int x25), some (.int x26), some (.int x27), some (.int x28), some (.int x29), some (.int x30), some (.int x31), some (.int x32), some (.int x33), some (.int x34), some (.int x35), some (.int x36), some (.int x37), some (.int x38), some (.int x39), some (.int y0), none, none]) (st' := [.int (3 : Int32), .int x21]) rfl ?_
  have hm115 : ∀ m114, m114 = (if x21 = (3 : Int32) then (if x28 = (1 : Int32) then (if x29 = x22 then (if x30 = x24 then (if x31 = x25 then (if x32 = x26 then (if x33 = x27 then (1 : Int32) else (0 : Int32)) else (0 : Int32)) else (0 : Int32)) else (0 : Int32)) else (0 : Int32)) else (0 : Int32)) else (0 : Int32)) → wplI PP QQ none 0 lm0 441 [none, none, none, none, none, none, some (.int x6), some (.int x7), some (.int x8), some (.int x9), some (.int x10), none, none, none, none, some (.int x15), none, none, none, none, none, some (.int x21), some (.int x22), none, some (.int x24), some (.int x25), some (.int x26), some (.int x27), some (.int x28), some (.int x29), some (.int x30), some (.int x31), some (.int x32), some (.int x33), some (.int x34), some (.int x35), some (.int x36), some (.int x37), some (.int x38), some (.int x39), some (.int y0), none, none] [.int m114] (W1 s) Q := by
    intro m114 em114
    have h116 := h m114 em114
    exact wpl_lle (ls := [none, none, none, none, none, none, some (.int x6), some (.int x7), some (.int x8), some (.int x9), some (.int x10), none, none, none, none, some (.int x15), none, none, none, none, none, none, none, none, none, none, none, none, none, none, none, none, none, none, some (.int x34), some (.int x35), some (.int x36), some (.int x37), some (.int x38), some (.int x39), some (.int y0), none, none]) ⟨rfl, rfl, rfl, rfl, rfl, rfl, rfl, rfl, rfl, rfl, rfl, rfl, rfl, trivial⟩ h116
  refine wpl_icmp (a := 440) (b := 395) rfl (by decide) rfl rfl (wpl_br (p := x21 = (3 : Int32)) ⟨fun hc117 => ?_, fun hc117 => ?_⟩)
  · refine wpl_sl (n := 2) (pc' := 398) (ls' := [none, none, none, none, none, none, some (.int x6), some (.int x7), some (.int x8), some (.int x9), some (.int x10), none, none, none, none, some (.int x15), none, none, none, none, none, some (.int x21), some (.int x22), none, some (.int x24), some (.int x25), some (.int x26), some (.int x27), some (.int x28), some (.int x29), some (.int x30), some (.int x31), some (.int x32), some (.int x33), some (.int x34), some (.int x35), some (.int x36), some (.int x37), some (.int x38), some (.int x39), some (.int y0), none, none]) (st' := [.int (1 : Int32), .int x28]) rfl ?_
    refine wpl_icmp (a := 440) (b := 401) rfl (by decide) rfl rfl (wpl_br (p := x28 = (1 : Int32)) ⟨fun hc118 => ?_, fun hc118 => ?_⟩)
    · refine wpl_sl (n := 2) (pc' := 405) (ls' := [none, none, none, none, none, none, some (.int x6), some (.int x7), some (.int x8), some (.int x9), some (.int x10), none, none, none, none, some (.int x15), none, none, none, none, none, some (.int x21), some (.int x22), none, some (.int x24), some (.int x25), some (.int x26), some (.int x27), some (.int x28), some (.int x29), some (.int x30), some (.int x31), some (.int x32), some (.int x33), some (.int x34), some (.int x35), some (.int x36), some (.int x37), some (.int x38), some (.int x39), some (.int y0), none, none]) (st' := [.int x22, .int x29]) rfl ?_
      refine wpl_icmp (a := 440) (b := 408) rfl (by decide) rfl rfl (wpl_br (p := x29 = x22) ⟨fun hc119 => ?_, fun hc119 => ?_⟩)
      · refine wpl_sl (n := 2) (pc' := 412) (ls' := [none, none, none, none, none, none, some (.int x6), some (.int x7), some (.int x8), some (.int x9), some (.int x10), none, none, none, none, some (.int x15), none, none, none, none, none, some (.int x21), some (.int x22), none, some (.int x24), some (.int x25), some (.int x26), some (.int x27), some (.int x28), some (.int x29), some (.int x30), some (.int x31), some (.int x32), some (.int x33), some (.int x34), some (.int x35), some (.int x36), some (.int x37), some (.int x38), some (.int x39), some (.int y0), none, none]) (st' := [.int x24, .int x30]) rfl ?_
        refine wpl_icmp (a := 440) (b := 415) rfl (by decide) rfl rfl (wpl_br (p := x30 = x24) ⟨fun hc120 => ?_, fun hc120 => ?_⟩)
        · refine wpl_sl (n := 2) (pc' := 419) (ls' := [none, none, none, none, none, none, some (.int x6), some (.int x7), some (.int x8), some (.int x9), some (.int x10), none, none, none, none, some (.int x15), none, none, none, none, none, some (.int x21), some (.int x22), none, some (.int x24), some (.int x25), some (.int x26), some (.int x27), some (.int x28), some (.int x29), some (.int x30), some (.int x31), some (.int x32), some (.int x33), some (.int x34), some (.int x35), some (.int x36), some (.int x37), some (.int x38), some (.int x39), some (.int y0), none, none]) (st' := [.int x25, .int x31]) rfl ?_
          refine wpl_icmp (a := 440) (b := 422) rfl (by decide) rfl rfl (wpl_br (p := x31 = x25) ⟨fun hc121 => ?_, fun hc121 => ?_⟩)
          · refine wpl_sl (n := 2) (pc' := 426) (ls' := [none, none, none, none, none, none, some (.int x6), some (.int x7), some (.int x8), some (.int x9), some (.int x10), none, none, none, none, some (.int x15), none, none, none, none, none, some (.int x21), some (.int x22), none, some (.int x24), some (.int x25), some (.int x26), some (.int x27), some (.int x28), some (.int x29), some (.int x30), some (.int x31), some (.int x32), some (.int x33), some (.int x34), some (.int x35), some (.int x36), some (.int x37), some (.int x38), some (.int x39), some (.int y0), none, none]) (st' := [.int x26, .int x32]) rfl ?_
            refine wpl_icmp (a := 440) (b := 429) rfl (by decide) rfl rfl (wpl_br (p := x32 = x26) ⟨fun hc122 => ?_, fun hc122 => ?_⟩)
            · refine wpl_sl (n := 2) (pc' := 433) (ls' := [none, none, none, none, none, none, some (.int x6), some (.int x7), some (.int x8), some (.int x9), some (.int x10), none, none, none, none, some (.int x15), none, none, none, none, none, some (.int x21), some (.int x22), none, some (.int x24), some (.int x25), some (.int x26), some (.int x27), some (.int x28), some (.int x29), some (.int x30), some (.int x31), some (.int x32), some (.int x33), some (.int x34), some (.int x35), some (.int x36), some (.int x37), some (.int x38), some (.int x39), some (.int y0), none, none]) (st' := [.int x27, .int x33]) rfl ?_
              refine wpl_icmp (a := 440) (b := 436) rfl (by decide) rfl rfl (wpl_br (p := x33 = x27) ⟨fun hc123 => ?_, fun hc123 => ?_⟩)
              · refine wpl_sl (n := 2) (pc' := 441) (ls' := [none, none, none, none, none, none, some (.int x6), some (.int x7), some (.int x8), some (.int x9), some (.int x10), none, none, none, none, some (.int x15), none, none, none, none, none, some (.int x21), some (.int x22), none, some (.int x24), some (.int x25), some (.int x26), some (.int x27), some (.int x28), some (.int x29), some (.int x30), some (.int x31), some (.int x32), some (.int x33), some (.int x34), some (.int x35), some (.int x36), some (.int x37), some (.int x38), some (.int x39), some (.int y0), none, none]) (st' := [.int (1 : Int32)]) rfl ?_
                first | exact hm115 _ (by simp only [if_pos hc117, if_pos hc118, if_pos hc119, if_pos hc120, if_pos hc121, if_pos hc122, if_pos hc123]) | exact wpl_lle (by repeat (first | exact trivial | refine ⟨rfl, ?_⟩)) (hm115 _ (by simp only [if_pos hc117, if_pos hc118, if_pos hc119, if_pos hc120, if_pos hc121, if_pos hc122, if_pos hc123]))
              · refine wpl_sl (n := 1) (pc' := 441) (ls' := [none, none, none, none, none, none, some (.int x6), some (.int x7), some (.int x8), some (.int x9), some (.int x10), none, none, none, none, some (.int x15), none, none, none, none, none, some (.int x21), some (.int x22), none, some (.int x24), some (.int x25), some (.int x26), some (.int x27), some (.int x28), some (.int x29), some (.int x30), some (.int x31), some (.int x32), some (.int x33), some (.int x34), some (.int x35), some (.int x36), some (.int x37), some (.int x38), some (.int x39), some (.int y0), none, none]) (st' := [.int (0 : Int32)]) rfl ?_
                first | exact hm115 _ (by simp only [if_pos hc117, if_pos hc118, if_pos hc119, if_pos hc120, if_pos hc121, if_pos hc122, if_neg hc123]) | exact wpl_lle (by repeat (first | exact trivial | refine ⟨rfl, ?_⟩)) (hm115 _ (by simp only [if_pos hc117, if_pos hc118, if_pos hc119, if_pos hc120, if_pos hc121, if_pos hc122, if_neg hc123]))
            · refine wpl_sl (n := 1) (pc' := 441) (ls' := [none, none, none, none, none, none, some (.int x6), some (.int x7), some (.int x8), some (.int x9), some (.int x10), none, none, none, none, some (.int x15), none, none, none, none, none, some (.int x21), some (.int x22), none, some (.int x24), some (.int x25), some (.int x26), some (.int x27), some (.int x28), some (.int x29), some (.int x30), some (.int x31), some (.int x32), some (.int x33), some (.int x34), some (.int x35), some (.int x36), some (.int x37), some (.int x38), some (.int x39), some (.int y0), none, none]) (st' := [.int (0 : Int32)]) rfl ?_
              first | exact hm115 _ (by simp only [if_pos hc117, if_pos hc118, if_pos hc119, if_pos hc120, if_pos hc121, if_neg hc122]) | exact wpl_lle (by repeat (first | exact trivial | refine ⟨rfl, ?_⟩)) (hm115 _ (by simp only [if_pos hc117, if_pos hc118, if_pos hc119, if_pos hc120, if_pos hc121, if_neg hc122]))
          · refine wpl_sl (n := 1) (pc' := 441) (ls' := [none, none, none, none, none, none, some (.int x6), some (.int x7), some (.int x8), some (.int x9), some (.int x10), none, none, none, none, some (.int x15), none, none, none, none, none, some (.int x21), some (.int x22), none, some (.int x24), some (.int x25), some (.int x26), some (.int x27), some (.int x28), some (.int x29), some (.int x30), some (.int x31), some (.int x32), some (.int x33), some (.int x34), some (.int x35), some (.int x36), some (.int x37), some (.int x38), some (.int x39), some (.int y0), none, none]) (st' := [.int (0 : Int32)]) rfl ?_
            first | exact hm115 _ (by simp only [if_pos hc117, if_pos hc118, if_pos hc119, if_pos hc120, if_neg hc121]) | exact wpl_lle (by repeat (first | exact trivial | refine ⟨rfl, ?_⟩)) (hm115 _ (by simp only [if_pos hc117, if_pos hc118, if_pos hc119, if_pos hc120, if_neg hc121]))
        · refine wpl_sl (n := 1) (pc' := 441) (ls' := [none, none, none, none, none, none, some (.int x6), some (.int x7), some (.int x8), some (.int x9), some (.int x10), none, none, none, none, some (.int x15), none, none, none, none, none, some (.int x21), some (.int x22), none, some (.int x24), some (.int x25), some (.int x26), some (.int x27), some (.int x28), some (.int x29), some (.int x30), some (.int x31), some (.int x32), some (.int x33), some (.int x34), some (.int x35), some (.int x36), some (.int x37), some (.int x38), some (.int x39), some (.int y0), none, none]) (st' := [.int (0 : Int32)]) rfl ?_
          first | exact hm115 _ (by simp only [if_pos hc117, if_pos hc118, if_pos hc119, if_neg hc120]) | exact wpl_lle (by repeat (first | exact trivial | refine ⟨rfl, ?_⟩)) (hm115 _ (by simp only [if_pos hc117, if_pos hc118, if_pos hc119, if_neg hc120]))
      · refine wpl_sl (n := 1) (pc' := 441) (ls' := [none, none, none, none, none, none, some (.int x6), some (.int x7), some (.int x8), some (.int x9), some (.int x10), none, none, none, none, some (.int x15), none, none, none, none, none, some (.int x21), some (.int x22), none, some (.int x24), some (.int x25), some (.int x26), some (.int x27), some (.int x28), some (.int x29), some (.int x30), some (.int x31), some (.int x32), some (.int x33), some (.int x34), some (.int x35), some (.int x36), some (.int x37), some (.int x38), some (.int x39), some (.int y0), none, none]) (st' := [.int (0 : Int32)]) rfl ?_
        first | exact hm115 _ (by simp only [if_pos hc117, if_pos hc118, if_neg hc119]) | exact wpl_lle (by repeat (first | exact trivial | refine ⟨rfl, ?_⟩)) (hm115 _ (by simp only [if_pos hc117, if_pos hc118, if_neg hc119]))
    · refine wpl_sl (n := 1) (pc' := 441) (ls' := [none, none, none, none, none, none, some (.int x6), some (.int x7), some (.int x8), some (.int x9), some (.int x10), none, none, none, none, some (.int x15), none, none, none, none, none, some (.int x21), some (.int x22), none, some (.int x24), some (.int x25), some (.int x26), some (.int x27), some (.int x28), some (.int x29), some (.int x30), some (.int x31), some (.int x32), some (.int x33), some (.int x34), some (.int x35), some (.int x36), some (.int x37), some (.int x38), some (.int x39), some (.int y0), none, none]) (st' := [.int (0 : Int32)]) rfl ?_
      first | exact hm115 _ (by simp only [if_pos hc117, if_neg hc118]) | exact wpl_lle (by repeat (first | exact trivial | refine ⟨rfl, ?_⟩)) (hm115 _ (by simp only [if_pos hc117, if_neg hc118]))
  · refine wpl_sl (n := 1) (pc' := 441) (ls' := [none, none, none, none, none, none, some (.int x6), some (.int x7), some (.int x8), some (.int x9), some (.int x10), none, none, none, none, some (.int x15), none, none, none, none, none, some (.int x21), some (.int x22), none, some (.int x24), some (.int x25), some (.int x26), some (.int x27), some (.int x28), some (.int x29), some (.int x30), some (.int x31), some (.int x32), some (.int x33), some (.int x34), some (.int x35), some (.int x36), some (.int x37), some (.int x38), some (.int x39), some (.int y0), none, none]) (st' := [.int (0 : Int32)]) rfl ?_
    first | exact hm115 _ (by simp only [if_neg hc117]) | exact wpl_lle (by repeat (first | exact trivial | refine ⟨rfl, ?_⟩)) (hm115 _ (by simp only [if_neg hc117]))
theorem l0_441 (x6 : Int32) (x7 : Int32) (x8 : Int32) (x9 : Int32) (x10 : Int32) (x15 : Int32) (x34 : Int32) (x35 : Int32) (x36 : Int32) (x37 : Int32) (x38 : Int32) (x39 : Int32) (x40 : Int32) (y0 : Int32)  (Q : Int32 → Wd → Prop) (h : ∀ m124, m124 = (if x34 = (5 : Int32) then (if x35 = x8 then (if x36 = x9 then (if x37 = x10 then (if x38 = x6 then (if x39 = x7 then (1 : Int32) else (0 : Int32)) else (0 : Int32)) else (0 : Int32)) else (0 : Int32)) else (0 : Int32)) else (0 : Int32)) → (wplI PP QQ none 0 lm0 489 [none, none, none, none, none, none, none, none, none, none, none, none, none, none, none, some (.int x15), none, none, none, none, none, none, none, none, none, none, none, none, none, none, none, none, none, none, none, none, none, none, none, none, some (.int x40), some (.int y0), none] [.int m124] (W1 s) Q)) : wplI PP QQ none 0 lm0 441 [none, none, none, none, none, none, some (.int x6), some (.int x7), some (.int x8), some (.int x9), some (.int x10), none, none, none, none, some (.int x15), none, none, none, none, none, none, none, none, none, none, none, none, none, none, none, none, none, none, some (.int x34), some (.int x35), some (.int x36), some (.int x37), some (.int x38), some (.int x39), some (.int x40), none, none] [.int y0] (W1 s) Q := by
  refine wpl_sl (n := 3) (pc' := 446) (ls' := [none, none, none, none, none, none, some (.int x6), some (.int x7), some (.int x8), some (.int x9), some (.int x10), none, none, none, none, some (.int x15), none, none, none, none, none, none, none, none, none, none, none, none, none, none, none, none, none, none, some (.int x34), some (.int x35), some (.int x36), some (.int x37), some (.int x38), some (.int x39), some (.int x40), some (.int y0), none]) (st' := [.int (5 : Int32), .int x34]) rfl ?_
  have hm125 : ∀ m124, m124 = (if x34 = (5 : Int32) then (if x35 = x8 then (if x36 = x9 then (if x37 = x10 then (if x38 = x6 then (if x39 = x7 then (1 : Int32) else (0 : Int32)) else (0 : Int32)) else (0 : Int32)) else (0 : Int32)) else (0 : Int32)) else (0 : Int32)) → wplI PP QQ none 0 lm0 489 [none, none, none, none, none, none, some (.int x6), some (.int x7), some (.int x8), some (.int x9), some (.int x10), none, none, none, none, some (.int x15), none, none, none, none, none, none, none, none, none, none, none, none, none, none, none, none, none, none, some (.int x34), some (.int x35), some (.int x36), some (.int x37), some (.int x38), some (.int x39), some (.int x40), some (.int y0), none] [.int m124] (W1 s) Q := by
    intro m124 em124
    have h126 := h m124 em124
    exact wpl_lle (ls := [none, none, none, none, none, none, none, none, none, none, none, none, none, none, none, some (.int x15), none, none, none, none, none, none, none, none, none, none, none, none, none, none, none, none, none, none, none, none, none, none, none, none, some (.int x40), some (.int y0), none]) ⟨rfl, rfl, rfl, trivial⟩ h126
  refine wpl_icmp (a := 488) (b := 449) rfl (by decide) rfl rfl (wpl_br (p := x34 = (5 : Int32)) ⟨fun hc127 => ?_, fun hc127 => ?_⟩)
  · refine wpl_sl (n := 2) (pc' := 453) (ls' := [none, none, none, none, none, none, some (.int x6), some (.int x7), some (.int x8), some (.int x9), some (.int x10), none, none, none, none, some (.int x15), none, none, none, none, none, none, none, none, none, none, none, none, none, none, none, none, none, none, some (.int x34), some (.int x35), some (.int x36), some (.int x37), some (.int x38), some (.int x39), some (.int x40), some (.int y0), none]) (st' := [.int x8, .int x35]) rfl ?_
    refine wpl_icmp (a := 488) (b := 456) rfl (by decide) rfl rfl (wpl_br (p := x35 = x8) ⟨fun hc128 => ?_, fun hc128 => ?_⟩)
    · refine wpl_sl (n := 2) (pc' := 460) (ls' := [none, none, none, none, none, none, some (.int x6), some (.int x7), some (.int x8), some (.int x9), some (.int x10), none, none, none, none, some (.int x15), none, none, none, none, none, none, none, none, none, none, none, none, none, none, none, none, none, none, some (.int x34), some (.int x35), some (.int x36), some (.int x37), some (.int x38), some (.int x39), some (.int x40), some (.int y0), none]) (st' := [.int x9, .int x36]) rfl ?_
      refine wpl_icmp (a := 488) (b := 463) rfl (by decide) rfl rfl (wpl_br (p := x36 = x9) ⟨fun hc129 => ?_, fun hc129 => ?_⟩)
      · refine wpl_sl (n := 2) (pc' := 467) (ls' := [none, none, none, none, none, none, some (.int x6), some (.int x7), some (.int x8), some (.int x9), some (.int x10), none, none, none, none, some (.int x15), none, none, none, none, none, none, none, none, none, none, none, none, none, none, none, none, none, none, some (.int x34), some (.int x35), some (.int x36), some (.int x37), some (.int x38), some (.int x39), some (.int x40), some (.int y0), none]) (st' := [.int x10, .int x37]) rfl ?_
        refine wpl_icmp (a := 488) (b := 470) rfl (by decide) rfl rfl (wpl_br (p := x37 = x10) ⟨fun hc130 => ?_, fun hc130 => ?_⟩)
        · refine wpl_sl (n := 2) (pc' := 474) (ls' := [none, none, none, none, none, none, some (.int x6), some (.int x7), some (.int x8), some (.int x9), some (.int x10), none, none, none, none, some (.int x15), none, none, none, none, none, none, none, none, none, none, none, none, none, none, none, none, none, none, some (.int x34), some (.int x35), some (.int x36), some (.int x37), some (.int x38), some (.int x39), some (.int x40), some (.int y0), none]) (st' := [.int x6, .int x38]) rfl ?_
          refine wpl_icmp (a := 488) (b := 477) rfl (by decide) rfl rfl (wpl_br (p := x38 = x6) ⟨fun hc131 => ?_, fun hc131 => ?_⟩)
          · refine wpl_sl (n := 2) (pc' := 481) (ls' := [none, none, none, none, none, none, some (.int x6), some (.int x7), some (.int x8), some (.int x9), some (.int x10), none, none, none, none, some (.int x15), none, none, none, none, none, none, none, none, none, none, none, none, none, none, none, none, none, none, some (.int x34), some (.int x35), some (.int x36), some (.int x37), some (.int x38), some (.int x39), some (.int x40), some (.int y0), none]) (st' := [.int x7, .int x39]) rfl ?_
            refine wpl_icmp (a := 488) (b := 484) rfl (by decide) rfl rfl (wpl_br (p := x39 = x7) ⟨fun hc132 => ?_, fun hc132 => ?_⟩)
            · refine wpl_sl (n := 2) (pc' := 489) (ls' := [none, none, none, none, none, none, some (.int x6), some (.int x7), some (.int x8), some (.int x9), some (.int x10), none, none, none, none, some (.int x15), none, none, none, none, none, none, none, none, none, none, none, none, none, none, none, none, none, none, some (.int x34), some (.int x35), some (.int x36), some (.int x37), some (.int x38), some (.int x39), some (.int x40), some (.int y0), none]) (st' := [.int (1 : Int32)]) rfl ?_
              first | exact hm125 _ (by simp only [if_pos hc127, if_pos hc128, if_pos hc129, if_pos hc130, if_pos hc131, if_pos hc132]) | exact wpl_lle (by repeat (first | exact trivial | refine ⟨rfl, ?_⟩)) (hm125 _ (by simp only [if_pos hc127, if_pos hc128, if_pos hc129, if_pos hc130, if_pos hc131, if_pos hc132]))
            · refine wpl_sl (n := 1) (pc' := 489) (ls' := [none, none, none, none, none, none, some (.int x6), some (.int x7), some (.int x8), some (.int x9), some (.int x10), none, none, none, none, some (.int x15), none, none, none, none, none, none, none, none, none, none, none, none, none, none, none, none, none, none, some (.int x34), some (.int x35), some (.int x36), some (.int x37), some (.int x38), some (.int x39), some (.int x40), some (.int y0), none]) (st' := [.int (0 : Int32)]) rfl ?_
              first | exact hm125 _ (by simp only [if_pos hc127, if_pos hc128, if_pos hc129, if_pos hc130, if_pos hc131, if_neg hc132]) | exact wpl_lle (by repeat (first | exact trivial | refine ⟨rfl, ?_⟩)) (hm125 _ (by simp only [if_pos hc127, if_pos hc128, if_pos hc129, if_pos hc130, if_pos hc131, if_neg hc132]))
          · refine wpl_sl (n := 1) (pc' := 489) (ls' := [none, none, none, none, none, none, some (.int x6), some (.int x7), some (.int x8), some (.int x9), some (.int x10), none, none, none, none, some (.int x15), none, none, none, none, none, none, none, none, none, none, none, none, none, none, none, none, none, none, some (.int x34), some (.int x35), some (.int x36), some (.int x37), some (.int x38), some (.int x39), some (.int x40), some (.int y0), none]) (st' := [.int (0 : Int32)]) rfl ?_
            first | exact hm125 _ (by simp only [if_pos hc127, if_pos hc128, if_pos hc129, if_pos hc130, if_neg hc131]) | exact wpl_lle (by repeat (first | exact trivial | refine ⟨rfl, ?_⟩)) (hm125 _ (by simp only [if_pos hc127, if_pos hc128, if_pos hc129, if_pos hc130, if_neg hc131]))
        · refine wpl_sl (n := 1) (pc' := 489) (ls' := [none, none, none, none, none, none, some (.int x6), some (.int x7), some (.int x8), some (.int x9), some (.int x10), none, none, none, none, some (.int x15), none, none, none, none, none, none, none, none, none, none, none, none, none, none, none, none, none, none, some (.int x34), some (.int x35), some (.int x36), some (.int x37), some (.int x38), some (.int x39), some (.int x40), some (.int y0), none]) (st' := [.int (0 : Int32)]) rfl ?_
          first | exact hm125 _ (by simp only [if_pos hc127, if_pos hc128, if_pos hc129, if_neg hc130]) | exact wpl_lle (by repeat (first | exact trivial | refine ⟨rfl, ?_⟩)) (hm125 _ (by simp only [if_pos hc127, if_pos hc128, if_pos hc129, if_neg hc130]))
      · refine wpl_sl (n := 1) (pc' := 489) (ls' := [none, none, none, none, none, none, some (.int x6), some (.int x7), some (.int x8), some (.int x9), some (.int x10), none, none, none, none, some (.int x15), none, none, none, none, none, none, none, none, none, none, none, none, none, none, none, none, none, none, some (.int x34), some (.int x35), some (.int x36), some (.int x37), some (.int x38), some (.int x39), some (.int x40), some (.int y0), none]) (st' := [.int (0 : Int32)]) rfl ?_
        first | exact hm125 _ (by simp only [if_pos hc127, if_pos hc128, if_neg hc129]) | exact wpl_lle (by repeat (first | exact trivial | refine ⟨rfl, ?_⟩)) (hm125 _ (by simp only [if_pos hc127, if_pos hc128, if_neg hc129]))
    · refine wpl_sl (n := 1) (pc' := 489) (ls' := [none, none, none, none, none, none, some (.int x6), some (.int x7), some (.int x8), some (.int x9), some (.int x10), none, none, none, none, some (.int x15), none, none, none, none, none, none, none, none, none, none, none, none, none, none, none, none, none, none, some (.int x34), some (.int x35), some (.int x36), some (.int x37), some (.int x38), some (.int x39), some (.int x40), some (.int y0), none]) (st' := [.int (0 : Int32)]) rfl ?_
      first | exact hm125 _ (by simp only [if_pos hc127, if_neg hc128]) | exact wpl_lle (by repeat (first | exact trivial | refine ⟨rfl, ?_⟩)) (hm125 _ (by simp only [if_pos hc127, if_neg hc128]))
  · refine wpl_sl (n := 1) (pc' := 489) (ls' := [none, none, none, none, none, none, some (.int x6), some (.int x7), some (.int x8), some (.int x9), some (.int x10), none, none, none, none, some (.int x15), none, none, none, none, none, none, none, none, none, none, none, none, none, none, none, none, none, none, some (.int x34), some (.int x35), some (.int x36), some (.int x37), some (.int x38), some (.int x39), some (.int x40), some (.int y0), none]) (st' := [.int (0 : Int32)]) rfl ?_
    first | exact hm125 _ (by simp only [if_neg hc127]) | exact wpl_lle (by repeat (first | exact trivial | refine ⟨rfl, ?_⟩)) (hm125 _ (by simp only [if_neg hc127]))
theorem l0_489 (x15 : Int32) (x40 : Int32) (x41 : Int32) (y0 : Int32)  (Q : Int32 → Wd → Prop) (h : ((x40 = (0 : Int32)) → Q (0 : Int32) (W1 s)) ∧ (¬ (x40 = (0 : Int32)) → ((x15 = (2 : Int32)) → ((x41 = (0 : Int32)) → Q (0 : Int32) (W1 s)) ∧ (¬ (x41 = (0 : Int32)) → ((y0 = (0 : Int32)) → Q (0 : Int32) (W1 s)) ∧ (¬ (y0 = (0 : Int32)) → Q (1 : Int32) (W1 s)))) ∧ (¬ (x15 = (2 : Int32)) → Q (0 : Int32) (W1 s)))) : wplI PP QQ none 0 lm0 489 [none, none, none, none, none, none, none, none, none, none, none, none, none, none, none, some (.int x15), none, none, none, none, none, none, none, none, none, none, none, none, none, none, none, none, none, none, none, none, none, none, none, none, some (.int x40), some (.int x41), none] [.int y0] (W1 s) Q := by
  refine wpl_sl (n := 2) (pc' := 493) (ls' := [none, none, none, none, none, none, none, none, none, none, none, none, none, none, none, some (.int x15), none, none, none, none, none, none, none, none, none, none, none, none, none, none, none, none, none, none, none, none, none, none, none, none, some (.int x40), some (.int x41), some (.int y0)]) (st' := [.int x40]) rfl ?_
  refine wpl_if (a := 516) (b := 496) rfl (by decide) rfl rfl (wpl_br (p := x40 = (0 : Int32)) ⟨fun hc133 => ?_, fun hc133 => ?_⟩)
  · have h134 := h.1 hc133
    refine wpl_sl (n := 1) (pc' := 517) (ls' := [none, none, none, none, none, none, none, none, none, none, none, none, none, none, none, some (.int x15), none, none, none, none, none, none, none, none, none, none, none, none, none, none, none, none, none, none, none, none, none, none, none, none, some (.int x40), some (.int x41), some (.int y0)]) (st' := [.int (0 : Int32)]) rfl ?_
    exact wpl_ret rfl rfl rfl ⟨(0 : Int32), rfl, h134⟩
  · have h135 := h.2 hc133
    refine wpl_sl (n := 2) (pc' := 499) (ls' := [none, none, none, none, none, none, none, none, none, none, none, none, none, none, none, some (.int x15), none, none, none, none, none, none, none, none, none, none, none, none, none, none, none, none, none, none, none, none, none, none, none, none, some (.int x40), some (.int x41), some (.int y0)]) (st' := [.int (2 : Int32), .int x15]) rfl ?_
    refine wpl_icmp (a := 516) (b := 502) rfl (by decide) rfl rfl (wpl_br (p := x15 = (2 : Int32)) ⟨fun hc136 => ?_, fun hc136 => ?_⟩)
    · have h137 := h135.1 hc136
      refine wpl_sl (n := 1) (pc' := 504) (ls' := [none, none, none, none, none, none, none, none, none, none, none, none, none, none, none, some (.int x15), none, none, none, none, none, none, none, none, none, none, none, none, none, none, none, none, none, none, none, none, none, none, none, none, some (.int x40), some (.int x41), some (.int y0)]) (st' := [.int x41]) rfl ?_
      refine wpl_if (a := 516) (b := 507) rfl (by decide) rfl rfl (wpl_br (p := x41 = (0 : Int32)) ⟨fun hc139 => ?_, fun hc139 => ?_⟩)
      · have h140 := h137.1 hc139
        refine wpl_sl (n := 1) (pc' := 517) (ls' := [none, none, none, none, none, none, none, none, none, none, none, none, none, none, none, some (.int x15), none, none, none, none, none, none, none, none, none, none, none, none, none, none, none, none, none, none, none, none, none, none, none, none, some (.int x40), some (.int x41), some (.int y0)]) (st' := [.int (0 : Int32)]) rfl ?_
        exact wpl_ret rfl rfl rfl ⟨(0 : Int32), rfl, h140⟩
      · have h141 := h137.2 hc139
        refine wpl_sl (n := 1) (pc' := 509) (ls' := [none, none, none, none, none, none, none, none, none, none, none, none, none, none, none, some (.int x15), none, none, none, none, none, none, none, none, none, none, none, none, none, none, none, none, none, none, none, none, none, none, none, none, some (.int x40), some (.int x41), some (.int y0)]) (st' := [.int y0]) rfl ?_
        refine wpl_if (a := 516) (b := 512) rfl (by decide) rfl rfl (wpl_br (p := y0 = (0 : Int32)) ⟨fun hc142 => ?_, fun hc142 => ?_⟩)
        · have h143 := h141.1 hc142
          refine wpl_sl (n := 1) (pc' := 517) (ls' := [none, none, none, none, none, none, none, none, none, none, none, none, none, none, none, some (.int x15), none, none, none, none, none, none, none, none, none, none, none, none, none, none, none, none, none, none, none, none, none, none, none, none, some (.int x40), some (.int x41), some (.int y0)]) (st' := [.int (0 : Int32)]) rfl ?_
          exact wpl_ret rfl rfl rfl ⟨(0 : Int32), rfl, h143⟩
        · have h144 := h141.2 hc142
          refine wpl_sl (n := 2) (pc' := 517) (ls' := [none, none, none, none, none, none, none, none, none, none, none, none, none, none, none, some (.int x15), none, none, none, none, none, none, none, none, none, none, none, none, none, none, none, none, none, none, none, none, none, none, none, none, some (.int x40), some (.int x41), some (.int y0)]) (st' := [.int (1 : Int32)]) rfl ?_
          exact wpl_ret rfl rfl rfl ⟨(1 : Int32), rfl, h144⟩
    · have h138 := h135.2 hc136
      refine wpl_sl (n := 1) (pc' := 517) (ls' := [none, none, none, none, none, none, none, none, none, none, none, none, none, none, none, some (.int x15), none, none, none, none, none, none, none, none, none, none, none, none, none, none, none, none, none, none, none, none, none, none, none, none, some (.int x40), some (.int x41), some (.int y0)]) (st' := [.int (0 : Int32)]) rfl ?_
      exact wpl_ret rfl rfl rfl ⟨(0 : Int32), rfl, h138⟩
/-- length of block k -/
def own_ln (s : St) (k : Int32) : Int32 := if k * gI s 0 9 < gI s 0 11 then (if gI s 0 11 < k * gI s 0 9 + gI s 0 9 then gI s 0 11 - k * gI s 0 9 else k * gI s 0 9 + gI s 0 9 - k * gI s 0 9) else 0
def own_f (s : St) (b : Nat) : Nat → Int32 × Int32 × Int32
  | 0 => (0, 0, -2128831035)
  | n + 1 => (((own_f s b n).1 + gI s 1 (b + n)) &&& 65535, ((own_f s b n).2.1 + (((own_f s b n).1 + gI s 1 (b + n)) &&& 65535)) &&& 65535, ((own_f s b n).2.2 ^^^ gI s 1 (b + n)) * 16777619)
def own_wk (s : St) (k : Int32) : Int32 := (own_f s (ix (k * gI s 0 9)) (ix (own_ln s k))).1 + (own_f s (ix (k * gI s 0 9)) (ix (own_ln s k))).2.1 * 65536
def own_st (s : St) (k : Int32) : Int32 := (own_f s (ix (k * gI s 0 9)) (ix (own_ln s k))).2.2
theorem own_22 (s : St) (k : Int32) (hk : 0 ≤ k.toInt ∧ k.toInt < 64) (Q : Int32 → St → Prop) (h : Q (own_ln s k) s) : calI PP 22 10 [.ref 0, .int k] s Q := by
  apply c22_in
  unfold own_ln at h
  refine ⟨fun q => absurd q (by rw [i32_lt]; simp; omega), fun _ => ⟨fun _ => ⟨fun a => ⟨fun b => ?_, fun b => ?_⟩, fun a => ?_⟩, fun q => absurd (by rw [i32_lt]; simp; omega) q⟩⟩
  · rw [if_pos a, if_pos b] at h; exact h
  · rw [if_pos a, if_neg b] at h; exact h
  · rw [if_neg a] at h; exact h
theorem own_kB {s : St} {k : Int32} (hk : 0 ≤ k.toInt ∧ k.toInt < 64) (hB : 2 ≤ (gI s 0 9).toInt ∧ (gI s 0 9).toInt ≤ 16) : (k * gI s 0 9).toInt = k.toInt * (gI s 0 9).toInt ∧ 0 ≤ k.toInt * (gI s 0 9).toInt ∧ k.toInt * (gI s 0 9).toInt ≤ 1024 := by
  have a : 0 ≤ k.toInt * (gI s 0 9).toInt := Int.mul_nonneg (by omega) (by omega)
  have b : k.toInt * (gI s 0 9).toInt ≤ 64 * 16 := Int.mul_le_mul (by omega) (by omega) (by omega) (by omega)
  exact ⟨i32_mul (by omega) (by omega), a, by omega⟩
theorem own_ln_rng (s : St) (k : Int32) (hk : 0 ≤ k.toInt ∧ k.toInt < 64) (hB : 2 ≤ (gI s 0 9).toInt ∧ (gI s 0 9).toInt ≤ 16) (hL : 0 ≤ (gI s 0 11).toInt ∧ (gI s 0 11).toInt ≤ 128) : 0 ≤ (own_ln s k).toInt ∧ (own_ln s k).toInt ≤ (gI s 0 9).toInt ∧ ((own_ln s k).toInt = 0 ∨ k.toInt * (gI s 0 9).toInt + (own_ln s k).toInt ≤ (gI s 0 11).toInt) := by
  obtain ⟨e, a, b⟩ := own_kB hk hB
  have e2 : (k * gI s 0 9 + gI s 0 9).toInt = k.toInt * (gI s 0 9).toInt + (gI s 0 9).toInt := by rw [i32_add] <;> rw [e]; omega; omega
  unfold own_ln
  split
  · rename_i h1; rw [i32_lt, e] at h1
    split
    · rename_i h2; rw [i32_lt, e2] at h2
      rw [i32_sub (by rw [e]; omega) (by rw [e]; omega), e]; omega
    · rename_i h2; rw [i32_lt, e2] at h2
      rw [i32_sub (by rw [e2, e]; omega) (by rw [e2, e]; omega), e2, e]; omega
  · simp; omega
theorem own_23 (s : St) (k : Int32) (hk : 0 ≤ k.toInt ∧ k.toInt < 64) (hB : 2 ≤ (gI s 0 9).toInt ∧ (gI s 0 9).toInt ≤ 16) (hL : 0 ≤ (gI s 0 11).toInt ∧ (gI s 0 11).toInt ≤ 128) (Q : St → Prop) (h : Q (sI (sI s 3 (ix k) (own_wk s k)) 4 (ix k) (own_st s k))) : calV PP 23 10 [.ref 0, .int k] s Q := by
  obtain ⟨e, a, b⟩ := own_kB hk hB
  have r := own_ln_rng s k hk hB hL
  apply c23_in
  refine own_22 s k hk _ ?_
  refine loop_up (F := fun i => wpcV PP 23 cm23 10 26 [some (.ref 0), some (.int k), some (.int (k * gI s 0 9)), some (.int (own_ln s k)), some (.int (own_f s (ix (k * gI s 0 9)) (ix i)).1), some (.int (own_f s (ix (k * gI s 0 9)) (ix i)).2.1), some (.int (own_f s (ix (k * gI s 0 9)) (ix i)).2.2), some (.int i), none, none] [] s Q) (own_ln s k).toInt (by omega) (fun i h0 h1 ei ih => ?_) (fun i hi => ?_) 0 (by decide) (by simp; omega)
  · have es : (k * gI s 0 9 + i).toInt = k.toInt * (gI s 0 9).toInt + i.toInt := by rw [i32_add] <;> rw [e] <;> omega
    have x1 : ix (k * gI s 0 9 + i) = ix (k * gI s 0 9) + ix i := by
      have p := ix_int (i := k * gI s 0 9 + i) (by omega); have q := ix_int (i := k * gI s 0 9) (by omega); have t := ix_int h0; omega
    have x2 : ix (i + 1) = ix i + 1 := by
      have p := ix_int (i := i + 1) (by omega); have t := ix_int h0; omega
    refine c23_26 _ _ _ _ _ _ _ _ _ ⟨fun _ => ⟨fun _ => ⟨fun q => absurd q (by rw [i32_lt, es]; simp; omega), fun _ => ⟨fun _ => ⟨⟨by omega, by omega⟩, ?_⟩, fun q => absurd (by rw [i32_lt, es]; omega) q⟩⟩, fun q => absurd (by rw [i32_lt]; simp; omega) q⟩, fun q => absurd (by rw [i32_lt]; exact h1) q⟩
    rw [x2] at ih; rw [x1]; exact ih
  · have : i = own_ln s k := i32_eq.mpr hi
    subst this
    refine c23_26 _ _ _ _ _ _ _ _ _ ⟨fun q => absurd q (by rw [i32_lt]; omega), fun _ => ?_⟩
    exact c23_107 _ _ _ _ _ _ ⟨⟨by omega, by omega⟩, ⟨by omega, by omega⟩, h⟩
theorem own_f_eq {s u : St} (h1 : ∀ j, gI u 1 j = gI s 1 j) (b : Nat) : ∀ n, own_f u b n = own_f s b n
  | 0 => rfl
  | n + 1 => by simp only [own_f, own_f_eq h1 b n, h1]
theorem own_ln_eq {s u : St} (h9 : gI u 0 9 = gI s 0 9) (h11 : gI u 0 11 = gI s 0 11) (k : Int32) : own_ln u k = own_ln s k := by simp only [own_ln, h9, h11]
theorem own_wk_eq {s u : St} (h9 : gI u 0 9 = gI s 0 9) (h11 : gI u 0 11 = gI s 0 11) (h1 : ∀ j, gI u 1 j = gI s 1 j) (k : Int32) : own_wk u k = own_wk s k := by simp only [own_wk, own_ln_eq h9 h11, h9, own_f_eq h1]
theorem own_st_eq {s u : St} (h9 : gI u 0 9 = gI s 0 9) (h11 : gI u 0 11 = gI s 0 11) (h1 : ∀ j, gI u 1 j = gI s 1 j) (k : Int32) : own_st u k = own_st s k := by simp only [own_st, own_ln_eq h9 h11, h9, own_f_eq h1]
theorem own_m63 (x : Int32) : inb 64 (x &&& 63) := by
  have := Jvm.Kit.i32_mask x 63 (k := 6) (by decide) (by decide)
  refine ⟨?_, ?_⟩ <;> omega
theorem own_25b (s : St) (n : Nat) : ∀ (k : Int32) (u : St), k.toInt + 1 = n → n ≤ 64 → (∀ c i, c ≠ 5 → c ≠ 6 → gI u c i = gI s c i) → ∀ Q : St → Prop, (∀ t, (∀ c i, c ≠ 5 → c ≠ 6 → gI t c i = gI s c i) → Q t) → wpcV PP 25 cm25 10 35 [some (.ref 0), some (.int k), none, none] [] u Q := by
  induction n with
  | zero =>
    intro k u hk hn hu Q h
    exact c25_35 _ _ _ ⟨fun _ => h u hu, fun q => absurd (by rw [i32_lt]; simp; omega) q⟩
  | succ n ih =>
    intro k u hk hn hu Q h
    have e : (k + -1).toInt = n - 1 := by rw [i32_add] <;> simp <;> omega
    have next : ∀ u, (∀ c i, c ≠ 5 → c ≠ 6 → gI u c i = gI s c i) → wpcV PP 25 cm25 10 96 [some (.ref 0), some (.int k), none, none] [] u Q := fun u hu => c25_96 _ _ _ (ih _ u (by omega) (by omega) hu Q h)
    have b : inb 64 k := ⟨by omega, by omega⟩
    refine c25_35 _ _ _ ⟨fun q => absurd q (by rw [i32_lt]; simp; omega), fun _ => ⟨fun _ => ?_, fun q => absurd (by rw [i32_lt]; simp; omega) q⟩⟩
    refine own_22 u k ⟨by omega, by omega⟩ _ ⟨fun _ => ⟨b, ?_⟩, fun _ => next u hu⟩
    apply c24_in
    refine ⟨own_m63 _, b, own_m63 _, next _ fun c i h5 h6 => ?_⟩
    rw [gI_sI, gI_sI, if_neg (by omega), if_neg (by omega)]; exact hu c i h5 h6
theorem own_25 (s : St) (hb : 0 ≤ (gI s 0 15).toInt ∧ (gI s 0 15).toInt ≤ 64) (Q : St → Prop) (h : ∀ t, (∀ c i, c ≠ 5 → c ≠ 6 → gI t c i = gI s c i) → Q t) : calV PP 25 10 [.ref 0] s Q := by
  apply c25_in
  refine loop_up (F := fun i => ∀ u, (∀ c i, c ≠ 5 → c ≠ 6 → gI u c i = gI s c i) → wpcV PP 25 cm25 10 2 [some (.ref 0), some (.int i), none, none] [] u Q) 64 (by decide) (fun i h0 h1 ei ih u hu => ?_) (fun i hi u hu => ?_) 0 (by decide) (by decide) s (fun _ _ _ _ => rfl)
  · refine c25_2 _ _ _ ⟨fun _ => ⟨⟨by omega, by omega⟩, ⟨by omega, by omega⟩, ih _ fun c j h5 h6 => ?_⟩, fun q => absurd (by rw [i32_lt]; simp; omega) q⟩
    rw [gI_sI, gI_sI, if_neg (by omega), if_neg (by omega)]; exact hu c j h5 h6
  · refine c25_2 _ _ _ ⟨fun q => absurd q (by rw [i32_lt]; simp; omega), fun _ => ?_⟩
    rw [hu 0 15 (by decide) (by decide)]
    obtain ⟨n, hn⟩ : ∃ n : Nat, (gI s 0 15).toInt = n := ⟨_, (Int.toNat_of_nonneg hb.1).symm⟩
    exact own_25b s n _ u (by rw [i32_sub] <;> simp <;> omega) (by omega) hu Q h
/-- sign -/
theorem own_5 (s : St) (h14 : gI s 0 14 = 0) (hB : 2 ≤ (gI s 0 9).toInt ∧ (gI s 0 9).toInt ≤ 16) (hL : 0 ≤ (gI s 0 11).toInt ∧ (gI s 0 11).toInt ≤ 128) (Q : Int32 → St → Prop)
    (h : ∀ bc t, bc = (gI s 0 11 + gI s 0 9 - 1) / gI s 0 9 → bc.toInt = ((gI s 0 11).toInt + (gI s 0 9).toInt - 1) / (gI s 0 9).toInt → bc.toInt ≤ 64 → (∀ c i, c ≠ 3 → c ≠ 4 → c ≠ 5 → c ≠ 6 → (c = 0 → i ≠ 14 ∧ i ≠ 15) → gI t c i = gI s c i) → gI t 0 14 = 1 → gI t 0 15 = bc → (∀ k : Int32, 0 ≤ k.toInt → k.toInt < bc.toInt → gI t 3 (ix k) = own_wk s k ∧ gI t 4 (ix k) = own_st s k) → Q bc t) : calI PP 5 10 [.ref 0] s Q := by
  generalize hbc : (gI s 0 11 + gI s 0 9 - 1) / gI s 0 9 = bc at h
  have e1 : (gI s 0 11 + gI s 0 9).toInt = (gI s 0 11).toInt + (gI s 0 9).toInt := by rw [i32_add] <;> omega
  have e2 : (gI s 0 11 + gI s 0 9 - 1).toInt = (gI s 0 11).toInt + (gI s 0 9).toInt - 1 := by rw [i32_sub] <;> rw [e1] <;> simp <;> omega
  have e3 : bc.toInt = ((gI s 0 11).toInt + (gI s 0 9).toInt - 1) / (gI s 0 9).toInt := by
    rw [← hbc, Jvm.Kit.i32_div (by omega), e2, Int.tdiv_eq_ediv_of_nonneg (by omega)]
  have e4 : 0 ≤ bc.toInt := by rw [e3]; exact Int.ediv_nonneg (by omega) (by omega)
  have e5 : bc.toInt ≤ 64 := by
    rw [e3]
    have : ((gI s 0 11).toInt + (gI s 0 9).toInt - 1) / (gI s 0 9).toInt < 65 := Int.ediv_lt_of_lt_mul (by omega) (by omega)
    omega
  apply c5_in
  refine ⟨fun _ => ⟨fun q => by rw [q] at hB; simp at hB, fun q => absurd q (by rw [hbc, i32_lt]; simp; omega), fun _ => c5_44 _ _ ?_⟩, fun q => absurd h14 q⟩
  rw [hbc]
  refine loop_up (F := fun i => ∀ u, (∀ c j, c ≠ 3 → c ≠ 4 → c ≠ 5 → c ≠ 6 → (c = 0 → j ≠ 14 ∧ j ≠ 15) → gI u c j = gI s c j) → gI u 0 15 = bc → (∀ k : Int32, 0 ≤ k.toInt → k.toInt < i.toInt → gI u 3 (ix k) = own_wk s k ∧ gI u 4 (ix k) = own_st s k) → wpcI PP 5 cm5 10 46 [some (.ref 0), some (.int i)] [] u Q) bc.toInt (by omega) (fun i h0 h1 ei ih u hu hb hk => ?_) (fun i hi u hu hb hk => ?_) 0 (by decide) (by simp; omega) _ (fun c j _ _ _ _ hc => by rw [gI_sI]; exact if_neg (by omega)) rfl (fun k a b => absurd b (by simp; omega))
  · have u9 := hu 0 9 (by decide) (by decide) (by decide) (by decide) (by decide)
    have u11 := hu 0 11 (by decide) (by decide) (by decide) (by decide) (by decide)
    have u1 := fun j => hu 1 j (by decide) (by decide) (by decide) (by decide) (fun q => absurd q (by decide))
    refine c5_46 _ _ _ ⟨fun _ => ?_, fun q => absurd (by rw [hb, i32_lt]; omega) q⟩
    refine own_23 u i (by omega) (by rw [u9]; exact hB) (by rw [u11]; exact hL) _ (ih _ (fun c j h3 h4 h5 h6 hc => ?_) ?_ ?_)
    · rw [gI_sI, gI_sI, if_neg (by omega), if_neg (by omega)]; exact hu c j h3 h4 h5 h6 hc
    · rw [gI_sI, gI_sI, if_neg (by omega), if_neg (by omega)]; exact hb
    · intro k k0 k1
      rw [own_wk_eq u9 u11 u1, own_st_eq u9 u11 u1]
      by_cases e : k = i
      · subst e; simp [gI_sI]
      · have ne : ix k ≠ ix i := fun q => e ((ix_inj k0 h0).mp q)
        have hlt : k.toInt < i.toInt := by rw [i32_eq] at e; omega
        simp [gI_sI, ne]; exact hk k k0 hlt
  · refine c5_46 _ _ _ ⟨fun q => absurd q (by rw [hb, i32_lt]; omega), fun _ => ?_⟩
    refine own_25 u (by rw [hb]; omega) _ fun t ht => ?_
    rw [ht 0 15 (by decide) (by decide), hb]
    refine h bc _ rfl e3 e5 (fun c j h3 h4 h5 h6 hc => ?_) (by rw [gI_sI]; exact if_pos ⟨rfl, rfl⟩) (by rw [gI_sI, if_neg (by decide), ht 0 15 (by decide) (by decide), hb]) (fun k k0 k1 => ?_)
    · rw [gI_sI, if_neg (by omega), ht c j h5 h6]; exact hu c j h3 h4 h5 h6 hc
    · rw [gI_sI, gI_sI, if_neg (by omega), if_neg (by omega), ht 3 _ (by decide) (by decide), ht 4 _ (by decide) (by decide)]; exact hk k k0 (by omega)
theorem own_b255 (x : Int32) : 0 ≤ (x &&& 255).toInt ∧ (x &&& 255).toInt ≤ 255 := by
  have := Jvm.Kit.i32_mask x 255 (k := 8) (by decide) (by decide)
  omega
theorem own_m16 {x : Int32} (h : 0 ≤ x.toInt ∧ x.toInt ≤ 65535) : x &&& 65535 = x := by
  have := Jvm.Kit.i32_mask x 65535 (k := 16) (by decide) (by decide)
  rw [i32_eq, this]; omega
theorem own_app (s : St) (b n : Int32) (h14 : gI s 0 14 = 0) (hn : gI s 0 11 = n) (hL : 0 ≤ n.toInt ∧ n.toInt < 128) (Q : Int32 → St → Prop) (h : Q 1 (sI (sI s 1 (ix n) (b &&& 255)) 0 11 (n + 1))) : calI PP 3 10 [.ref 0, .int b] s Q := by
  subst hn
  apply c3_in
  exact ⟨fun _ => ⟨fun _ => ⟨⟨by omega, by omega⟩, h⟩, fun q => absurd (by rw [i32_lt]; simp; omega) q⟩, fun q => absurd h14 q⟩

/-! the delta and the patch -/
def own_K (s : St) (B O N : Nat) : Prop := (gI s 0 9).toInt = B ∧ (gI s 0 11).toInt = O ∧ (gI s 0 13).toInt = N ∧ 2 ≤ B ∧ B ≤ 16 ∧ O ≤ 128 ∧ N ≤ 128
def own_L (O B k : Nat) : Nat := if k * B < O then (if O < k * B + B then O - k * B else B) else 0
theorem own_lnL {s : St} {B O N : Nat} (K : own_K s B O N) (k : Int32) (hk : 0 ≤ k.toInt ∧ k.toInt < 64) : (own_ln s k).toInt = own_L O B (ix k) ∧ (k * gI s 0 9).toInt = (ix k * B : Nat) ∧ ix (k * gI s 0 9) = ix k * B ∧ ix k * B ≤ 1024 := by
  obtain ⟨h9, h11, h13, B2, B16, O1, N1⟩ := K
  have kk := ix_int hk.1
  obtain ⟨e, a, b⟩ := own_kB (s := s) hk (by omega)
  have e' : (k * gI s 0 9).toInt = (ix k * B : Nat) := by rw [e, h9, ← kk]; simp
  have ei : ix (k * gI s 0 9) = ix k * B := by
    have := ix_int (i := k * gI s 0 9) (by omega)
    omega
  have e2 : (k * gI s 0 9 + gI s 0 9).toInt = (ix k * B : Nat) + B := by rw [i32_add] <;> rw [e', h9]; omega; omega
  refine ⟨?_, e', ei, by omega⟩
  unfold own_ln own_L
  by_cases q : ix k * B < O
  · rw [if_pos (by rw [i32_lt, e', h11]; omega), if_pos q]
    by_cases r : O < ix k * B + B
    · rw [if_pos (by rw [i32_lt, e2, h11]; omega), if_pos r, i32_sub (by rw [e', h11]; omega) (by rw [e', h11]; omega), e', h11]; omega
    · rw [if_neg (by rw [i32_lt, e2, h11]; omega), if_neg r, i32_sub (by rw [e', e2]; omega) (by rw [e', e2]; omega), e', e2]; omega
  · rw [if_neg (by rw [i32_lt, e', h11]; omega), if_neg q]; rfl
theorem own_L_le (O B k : Nat) : own_L O B k ≤ B := by unfold own_L; split <;> (try split) <;> omega
theorem own_L_in {O B k j : Nat} (h : j < own_L O B k) : k * B + j < O := by
  unfold own_L at h
  split at h
  · split at h <;> omega
  · omega
theorem own_bc {O B k : Nat} (hB : 0 < B) (h : k * B < O) : k < (O + B - 1) / B := by
  have : k + 1 ≤ (O + B - 1) / B := (Nat.le_div_iff_mul_le hB).mpr (by rw [Nat.add_mul]; omega)
  omega
/-- the block at kb and the window at p are the same n bytes -/
def own_sb (s : St) (O N kb p n : Nat) : Prop := ∀ j, j < n → kb + j < O ∧ p + j < N ∧ gI s 1 (kb + j) = gI s 2 (p + j)
theorem own_29 (s : St) {B O N : Nat} (K : own_K s B O N) (k p l : Int32) (hk : 0 ≤ k.toInt ∧ k.toInt < 64) (hp : 0 ≤ p.toInt ∧ p.toInt ≤ 128) (hl : 0 ≤ l.toInt ∧ l.toInt ≤ 16) (Q : Int32 → St → Prop) (h0 : ¬ own_sb s O N (ix k * B) (ix p) (ix l) → Q 0 s) (h1 : own_sb s O N (ix k * B) (ix p) (ix l) → Q 1 s) : calI PP 29 10 [.ref 0, .int k, .int p, .int l] s Q := by
  obtain ⟨_, e1, e2, e3⟩ := own_lnL K k hk
  obtain ⟨h9, h11, h13, B2, B16, O1, N1⟩ := K
  have kp := ix_int hp.1
  have kl := ix_int hl.1
  apply c29_in
  generalize hx : k * gI s 0 9 = x at *
  refine loop_up (F := fun i => own_sb s O N (ix k * B) (ix p) (ix i) → wpcI PP 29 cm29 10 11 [some (.ref 0), none, some (.int p), some (.int l), some (.int x), some (.int i), none, none] [] s Q) l.toInt (by omega) (fun i i0 i1 e ih hs => ?_) (fun i hi hs => ?_) 0 (by decide) (by simpa using hl.1) (fun j hj => absurd hj (by simp [ix]))
  · have ki := ix_int i0
    have kj := ix_int (i := i + 1) (by omega)
    have ex : (x + i).toInt = (ix k * B : Nat) + ix i := by rw [i32_add] <;> rw [e1] <;> omega
    have ep : (p + i).toInt = ix p + ix i := by rw [i32_add] <;> omega
    have ix1 : ix (x + i) = ix k * B + ix i := by have := ix_int (i := x + i) (by omega); omega
    have ix2 : ix (p + i) = ix p + ix i := by have := ix_int (i := p + i) (by omega); omega
    have no : ¬ (ix k * B + ix i < O ∧ ix p + ix i < N ∧ gI s 1 (ix k * B + ix i) = gI s 2 (ix p + ix i)) → Q 0 s := fun z => h0 fun w => z (w (ix i) (by omega))
    refine c29_11 _ _ _ _ _ _ ⟨fun _ => ⟨fun _ => ⟨fun q => absurd q (by rw [i32_lt, ex]; simp; omega), fun _ => ⟨fun q => ⟨fun r => absurd r (by rw [i32_lt, ep]; simp; omega), fun _ => ⟨fun r => ?_, fun r => ?_⟩⟩, fun q => ?_⟩⟩, fun q => absurd (by rw [i32_lt]; simp; omega) q⟩, fun q => absurd (by rw [i32_lt]; exact i1) q⟩
    · rw [i32_lt, ex, h11] at q
      rw [i32_lt, ep, h13] at r
      refine ⟨⟨by omega, by show _ < (128 : Int); omega⟩, ⟨by omega, by show _ < (128 : Int); omega⟩, fun z => ih fun j hj => ?_, fun z => no fun w => z ?_⟩
      · by_cases y : j = ix i
        · subst y; rw [ix1, ix2] at z; exact ⟨by omega, by omega, z⟩
        · exact hs j (by omega)
      · rw [ix1, ix2]; exact w.2.2
    · rw [i32_lt, ep, h13] at r
      exact no fun w => by omega
    · rw [i32_lt, ex, h11] at q
      exact no fun w => by omega
  · have : ix i = ix l := by have := ix_int (i := i) (by omega); omega
    rw [this] at hs
    exact c29_11 _ _ _ _ _ _ ⟨fun q => absurd q (by rw [i32_lt, hi]; omega), fun _ => h1 hs⟩
/-- findTailMatch -/
theorem own_31 (s : St) {B O N b : Nat} (K : own_K s B O N) (hb : (gI s 0 15).toInt = b) (b64 : b ≤ 64) (p r : Int32) (hp : 0 ≤ p.toInt ∧ p.toInt ≤ 128) (hr : 0 ≤ r.toInt ∧ r.toInt ≤ 16) (Q : Int32 → St → Prop) (h0 : ¬ (0 < b ∧ own_L O B (b - 1) = ix r ∧ own_sb s O N ((b - 1) * B) (ix p) (ix r)) → Q (-1) s) (h1 : ∀ v : Int32, 0 < b → v.toInt = b - 1 → own_L O B (b - 1) = ix r → own_sb s O N ((b - 1) * B) (ix p) (ix r) → Q v s) : calI PP 31 10 [.ref 0, .int p, .int r] s Q := by
  apply c31_in
  have kr := ix_int hr.1
  refine ⟨fun q => ?_, fun q => h0 fun w => q (by rw [i32_lt, hb]; simp; omega)⟩
  rw [i32_lt, hb] at q
  simp at q
  have ev : (gI s 0 15 - 1).toInt = b - 1 := by rw [i32_sub] <;> rw [hb] <;> simp <;> omega
  generalize gI s 0 15 - 1 = v at *
  have kv := ix_int (i := v) (by omega)
  have iv : ix v = b - 1 := by omega
  obtain ⟨e0, _⟩ := own_lnL K v (by omega)
  rw [iv] at e0
  refine own_22 s v (by omega) _ ⟨fun z => own_29 s K v p r (by omega) hp hr _ (fun w => ⟨fun _ => h0 ?_, fun z => absurd rfl z⟩) (fun w => ⟨fun z => absurd z (by decide), fun _ => ?_⟩), fun z => h0 fun w => z ?_⟩
  · intro y; rw [iv] at w; exact w y.2.2
  · rw [z] at e0
    rw [iv] at w
    exact h1 v (by omega) ev (by omega) w
  · rw [i32_eq, e0]; omega
/-- windowStrong only looks -/
theorem own_27 (s : St) {B O N : Nat} (K : own_K s B O N) (p l : Int32) (hp : 0 ≤ p.toInt ∧ p.toInt ≤ 128) (hl : 0 ≤ l.toInt ∧ l.toInt ≤ 16) (Q : Int32 → St → Prop) (h : ∀ v, Q v s) : calI PP 27 10 [.ref 0, .int p, .int l] s Q := by
  obtain ⟨h9, h11, h13, B2, B16, O1, N1⟩ := K
  apply c27_in
  refine loop_up (F := fun i => ∀ x, wpcI PP 27 cm27 10 6 [some (.ref 0), some (.int p), some (.int l), some (.int x), some (.int i), none] [] s Q) l.toInt (by omega) (fun i i0 i1 e ih x => ?_) (fun i hi x => ?_) 0 (by decide) (by simpa using hl.1) _
  · have ep : (p + i).toInt = p.toInt + i.toInt := by rw [i32_add] <;> omega
    refine c27_6 _ _ _ _ _ _ ⟨fun _ => ⟨fun _ => ⟨fun _ => h _, fun _ => ⟨fun r => ⟨⟨by omega, ?_⟩, ih _⟩, fun _ => h _⟩⟩, fun _ => h _⟩, fun _ => h _⟩
    rw [i32_lt, h13] at r
    show _ < (128 : Int); omega
  · exact c27_6 _ _ _ _ _ _ ⟨fun q => absurd q (by rw [i32_lt, hi]; omega), fun _ => h _⟩
/-- findFullMatch answers no wrong block -/
theorem own_30 (s : St) {B O N : Nat} (K : own_K s B O N) (p : Int32) (hp : 0 ≤ p.toInt ∧ p.toInt ≤ 128) (Q : Int32 → St → Prop) (h0 : Q (-1) s) (h1 : ∀ v : Int32, (0 ≤ v.toInt ∧ v.toInt < 64) → own_sb s O N (ix v * B) (ix p) B → Q v s) : calI PP 30 10 [.ref 0, .int p] s Q := by
  have K' := K
  obtain ⟨h9, h11, h13, B2, B16, O1, N1⟩ := K'
  have i9 : ix (gI s 0 9) = B := by have := ix_int (i := gI s 0 9) (by omega); omega
  apply c30_in
  apply c24_in
  refine ⟨own_m63 _, ?_⟩
  refine loop_up (F := fun i => ∀ x2 x3 x4 x5, wpcI PP 30 cm30 10 40 [some (.ref 0), some (.int p), some (.int x2), some (.int x3), some (.int x4), some (.int x5), some (.int i)] [] s Q) 64 (by decide) (fun i i0 i1 e ih x2 x3 x4 x5 => ?_) (fun i hi x2 x3 x4 x5 => ?_) 0 (by decide) (by decide) _ _ _ _
  · refine c30_40 _ _ _ _ _ _ _ _ ⟨fun _ => ⟨fun _ => h0, fun a => ⟨fun b => ?_, fun _ => h0⟩⟩, fun q => absurd (by rw [i32_lt]; exact i1) q⟩
    rw [i32_lt] at a b
    simp at a b
    have ib : inb 64 x3 := ⟨a, b⟩
    have nx : ∀ y4 y5, wpcI PP 30 cm30 10 112 [some (.ref 0), some (.int p), some (.int x2), some (.int x3), some (.int y4), some (.int y5), some (.int i)] [] s Q := fun y4 y5 => c30_112 _ _ _ _ _ _ _ _ ⟨ib, ih _ _ _ _⟩
    have mid : ∀ y4 y5, wpcI PP 30 cm30 10 86 [some (.ref 0), some (.int p), some (.int x2), some (.int x3), some (.int y4), some (.int y5), some (.int i)] [] s Q := fun y4 y5 => by
      apply c30_86
      refine ⟨ib, fun _ => own_29 s K x3 p (gI s 0 9) ⟨a, b⟩ hp (by omega) _ (fun w => ⟨fun _ => nx _ _, fun z => absurd rfl z⟩) (fun w => ⟨fun z => absurd z (by decide), fun _ => h1 x3 ⟨a, b⟩ (by rw [i9] at w; exact w)⟩), fun _ => nx _ _⟩
    exact ⟨ib, fun _ => ⟨fun _ => own_27 s K p (gI s 0 9) hp (by omega) _ fun v => mid _ _, fun _ => mid _ _⟩, fun _ => nx _ _⟩
  · exact c30_40 _ _ _ _ _ _ _ _ ⟨fun q => absurd q (by rw [i32_lt, hi]; decide), fun _ => h0⟩
/-- windowSums and rollWindow touch winA and winS alone -/
def own_w2 (s t : St) : Prop := ∀ c j, (c = 0 → j ≠ 29 ∧ j ≠ 30) → gI t c j = gI s c j
theorem own_26 (s : St) {B O N : Nat} (K : own_K s B O N) (p l : Int32) (hp : 0 ≤ p.toInt ∧ p.toInt ≤ 128) (hl : 0 ≤ l.toInt ∧ l.toInt ≤ 16) (Q : St → Prop) (h : ∀ t, own_w2 s t → Q t) : calV PP 26 10 [.ref 0, .int p, .int l] s Q := by
  obtain ⟨h9, h11, h13, B2, B16, O1, N1⟩ := K
  apply c26_in
  have fin : ∀ x3 x4, wpcV PP 26 cm26 10 72 [some (.ref 0), none, none, some (.int x3), some (.int x4), none, none] [] s Q := fun x3 x4 => c26_72 _ _ _ _ (h _ fun c j hc => by rw [gI_sI, if_neg (fun z => (hc z.1).2 z.2), gI_sI, if_neg (fun z => (hc z.1).1 z.2)])
  refine loop_up (F := fun i => ∀ x3 x4, wpcV PP 26 cm26 10 8 [some (.ref 0), some (.int p), some (.int l), some (.int x3), some (.int x4), some (.int i), none] [] s Q) l.toInt (by omega) (fun i i0 i1 e ih x3 x4 => ?_) (fun i hi x3 x4 => ?_) 0 (by decide) (by simpa using hl.1) _ _
  · have ep : (p + i).toInt = p.toInt + i.toInt := by rw [i32_add] <;> omega
    refine c26_8 _ _ _ _ _ _ _ ⟨fun _ => ⟨fun _ => ⟨fun _ => fin _ _, fun _ => ⟨fun r => ⟨⟨by omega, ?_⟩, ih _ _⟩, fun _ => fin _ _⟩⟩, fun _ => fin _ _⟩, fun _ => fin _ _⟩
    rw [i32_lt, h13] at r
    show _ < (128 : Int); omega
  · exact c26_8 _ _ _ _ _ _ _ ⟨fun q => absurd q (by rw [i32_lt, hi]; omega), fun _ => fin _ _⟩
theorem own_28 (s : St) {B O N : Nat} (K : own_K s B O N) (p : Int32) (hp : 0 ≤ p.toInt ∧ p.toInt ≤ 128) (Q : St → Prop) (h : ∀ t, own_w2 s t → Q t) : calV PP 28 10 [.ref 0, .int p] s Q := by
  obtain ⟨h9, h11, h13, B2, B16, O1, N1⟩ := K
  apply c28_in
  have ep : (p + gI s 0 9).toInt = p.toInt + B := by rw [i32_add] <;> omega
  refine ⟨fun _ => h s fun _ _ _ => rfl, fun _ => ⟨fun r => ?_, fun _ => h s fun _ _ _ => rfl⟩⟩
  rw [i32_lt, ep, h13] at r
  exact ⟨⟨hp.1, by show _ < (128 : Int); omega⟩, ⟨by omega, by show _ < (128 : Int); omega⟩, h _ fun c j hc => by rw [gI_sI, if_neg (fun z => (hc z.1).2 z.2), gI_sI, if_neg (fun z => (hc z.1).1 z.2)]⟩
/-! what the first n ops stand for -/
def own_lp (s : St) : Nat → Nat
  | 0 => 0
  | i + 1 => own_lp s i + (if gI s 7 i = 1 then 0 else ix (gI s 8 i))
def own_op (O B : Nat) (s : St) : Nat → Nat
  | 0 => 0
  | i + 1 => own_op O B s i + (if gI s 7 i = 1 then own_L O B (ix (gI s 8 i)) else ix (gI s 8 i))
theorem own_lp_eq {s t : St} : ∀ n, (∀ i, i < n → gI t 7 i = gI s 7 i ∧ gI t 8 i = gI s 8 i) → own_lp t n = own_lp s n
  | 0, _ => rfl
  | n + 1, h => by simp only [own_lp, (h n (by omega)).1, (h n (by omega)).2, own_lp_eq n fun i hi => h i (by omega)]
theorem own_op_eq {O B : Nat} {s t : St} : ∀ n, (∀ i, i < n → gI t 7 i = gI s 7 i ∧ gI t 8 i = gI s 8 i) → own_op O B t n = own_op O B s n
  | 0, _ => rfl
  | n + 1, h => by simp only [own_op, (h n (by omega)).1, (h n (by omega)).2, own_op_eq n fun i hi => h i (by omega)]
def own_ok (O B : Nat) (s : St) (i : Nat) : Prop := (gI s 7 i = 1 ∧ 0 ≤ (gI s 8 i).toInt ∧ ix (gI s 8 i) < (O + B - 1) / B ∧ 1 ≤ own_L O B (ix (gI s 8 i)) ∧ ∀ j, j < own_L O B (ix (gI s 8 i)) → gI s 1 (ix (gI s 8 i) * B + j) = gI s 2 (own_op O B s i + j)) ∨ (gI s 7 i = 2 ∧ 1 ≤ (gI s 8 i).toInt ∧ ∀ j, j < ix (gI s 8 i) → gI s 9 (own_lp s i + j) = gI s 2 (own_op O B s i + j))
/-- n ops, and run literals not yet told: together the first p bytes -/
def own_DL (O B : Nat) (s : St) (n run p : Nat) : Prop := (gI s 0 23).toInt = n ∧ (gI s 0 25).toInt = own_lp s n + run ∧ own_op O B s n + run = p ∧ n ≤ own_op O B s n ∧ own_lp s n ≤ own_op O B s n ∧ (∀ i, i < n → own_ok O B s i) ∧ (∀ j, j < run → gI s 9 (own_lp s n + j) = gI s 2 (own_op O B s n + j)) ∧ (∀ i, i + 1 < n → gI s 7 i = 2 → gI s 7 (i + 1) = 1) ∧ (own_op O B s n = 0 → n = 0)
/-- the parts that the scan leaves alone -/
def own_sc (s t : St) : Prop := ∀ c j, c ≠ 7 → c ≠ 8 → c ≠ 9 → (c = 0 → j ≠ 23 ∧ j ≠ 25 ∧ j ≠ 29 ∧ j ≠ 30) → gI t c j = gI s c j
theorem own_sc_K {s t : St} {B O N : Nat} (h : own_sc s t) (K : own_K s B O N) : own_K t B O N := by
  obtain ⟨h9, h11, h13, r⟩ := K
  exact ⟨by rw [h 0 9 (by decide) (by decide) (by decide) (by decide)]; exact h9, by rw [h 0 11 (by decide) (by decide) (by decide) (by decide)]; exact h11, by rw [h 0 13 (by decide) (by decide) (by decide) (by decide)]; exact h13, r⟩
theorem own_sc_w {s t u : St} (h : own_sc s t) (w : own_w2 t u) : own_sc s u := fun c j a b d e => by rw [w c j (fun z => ⟨(e z).2.2.1, (e z).2.2.2⟩)]; exact h c j a b d e
theorem own_ok_eq {O B : Nat} {s t : St} {i n : Nat} (hi : i < n) (h : ∀ j, j < n → gI t 7 j = gI s 7 j ∧ gI t 8 j = gI s 8 j) (h1 : ∀ j, gI t 1 j = gI s 1 j) (h2 : ∀ j, gI t 2 j = gI s 2 j) (h9 : ∀ j, j < own_lp s (i + 1) → gI t 9 j = gI s 9 j) (ok : own_ok O B s i) : own_ok O B t i := by
  have el := own_lp_eq (s := s) (t := t) i fun j hj => h j (by omega)
  have eo := own_op_eq (O := O) (B := B) (s := s) (t := t) i fun j hj => h j (by omega)
  obtain ⟨e7, e8⟩ := h i hi
  unfold own_ok at *
  rw [e7, e8, el, eo]
  rcases ok with ⟨a, b, c, d, e⟩ | ⟨a, b, c⟩
  · refine .inl ⟨a, b, c, d, fun j hj => ?_⟩
    rw [h1, h2]; exact e j hj
  · refine .inr ⟨a, b, fun j hj => ?_⟩
    rw [h2, h9 _ (by rw [own_lp, if_neg (by rw [a]; decide)]; omega)]; exact c j hj
theorem own_lp_mono {s : St} : ∀ n i, i ≤ n → own_lp s i ≤ own_lp s n
  | 0, i, h => by have : i = 0 := by omega
                  rw [this]; exact Nat.le_refl _
  | n + 1, i, h => by
    by_cases q : i = n + 1
    · rw [q]; exact Nat.le_refl _
    · have := own_lp_mono (s := s) n i (by omega)
      simp only [own_lp]; omega
theorem own_DL_w {O B : Nat} {s t : St} {n run p : Nat} (w : own_w2 s t) (h : own_DL O B s n run p) : own_DL O B t n run p := by
  have e : ∀ c j, c ≠ 0 → gI t c j = gI s c j := fun c j hc => w c j (fun z => absurd z hc)
  have el := own_lp_eq (s := s) (t := t) n fun j hj => ⟨e 7 j (by decide), e 8 j (by decide)⟩
  have eo := own_op_eq (O := O) (B := B) (s := s) (t := t) n fun j hj => ⟨e 7 j (by decide), e 8 j (by decide)⟩
  obtain ⟨a1, a2, a3, a4, a5, a6, a7, a8, a9⟩ := h
  unfold own_DL
  rw [el, eo, w 0 23 (by decide), w 0 25 (by decide)]
  refine ⟨a1, a2, a3, a4, a5, fun i hi => own_ok_eq hi (fun j _ => ⟨e 7 j (by decide), e 8 j (by decide)⟩) (fun j => e 1 j (by decide)) (fun j => e 2 j (by decide)) (fun j _ => e 9 j (by decide)) (a6 i hi), fun j hj => ?_, fun i h1 h2 => ?_, a9⟩
  · rw [e 9 _ (by decide), e 2 _ (by decide)]; exact a7 j hj
  · rw [e 7 _ (by decide)] at h2 ⊢; exact a8 i h1 h2
/-- emitOp -/
theorem own_em (s : St) (O B : Nat) (n run p q : Nat) (kd v : Int32) (h : own_DL O B s n run p) (n128 : n < 128) (p128 : p ≤ 128) (hq : q = own_op O B s n + (if kd = 1 then own_L O B (ix v) else ix v)) (q1 : own_op O B s n < q) (hr : (kd = 1 ∧ run = 0) ∨ (kd = 2 ∧ v.toInt = run)) (hk : kd = 1 → 0 ≤ v.toInt ∧ ix v < (O + B - 1) / B ∧ ∀ j, j < own_L O B (ix v) → gI s 1 (ix v * B + j) = gI s 2 (own_op O B s n + j)) (hl : kd = 2 → n = 0 ∨ gI s 7 (n - 1) = 1) (Q : St → Prop) (hQ : ∀ t, own_sc s t → own_DL O B t (n + 1) 0 q → gI t 7 n = kd → gI t 8 n = v → (∀ j, j < n → gI t 7 j = gI s 7 j ∧ gI t 8 j = gI s 8 j) → Q t) : calV PP 32 10 [.ref 0, .int kd, .int v] s Q := by
  obtain ⟨a1, a2, a3, a4, a5, a6, a7, a8, a9⟩ := h
  apply c32_in
  refine ⟨fun _ => ?_, fun z => absurd (by rw [i32_lt, a1]; simp; omega) z⟩
  have i23 : ix (gI s 0 23) = n := by have := ix_int (i := gI s 0 23) (by omega); omega
  have ib : inb 128 (gI s 0 23) := ⟨by omega, by show _ < (128 : Int); omega⟩
  rw [i23]
  refine ⟨ib, ib, ?_⟩
  have e1 : (gI s 0 23 + 1).toInt = n + 1 := by rw [i32_add] <;> rw [a1] <;> simp <;> omega
  generalize ht : sI (sI (sI s 7 n kd) 8 n v) 0 23 (gI s 0 23 + 1) = t
  have t7 : ∀ j, gI t 7 j = if j = n then kd else gI s 7 j := fun j => by rw [← ht]; simp [gI_sI]
  have t8 : ∀ j, gI t 8 j = if j = n then v else gI s 8 j := fun j => by rw [← ht]; simp [gI_sI]
  have tc : ∀ c j, c ≠ 7 → c ≠ 8 → (c = 0 → j ≠ 23) → gI t c j = gI s c j := fun c j h1 h2 h3 => by
    rw [← ht, gI_sI, if_neg (fun z => h3 z.1 z.2), gI_sI, if_neg (by omega), gI_sI, if_neg (by omega)]
  have t23 : gI t 0 23 = gI s 0 23 + 1 := by rw [← ht]; simp [gI_sI]
  have low : ∀ j, j < n → gI t 7 j = gI s 7 j ∧ gI t 8 j = gI s 8 j := fun j hj => by rw [t7, t8, if_neg (by omega), if_neg (by omega)]; exact ⟨rfl, rfl⟩
  have el := own_lp_eq (s := s) (t := t) n low
  have eo := own_op_eq (O := O) (B := B) (s := s) (t := t) n low
  have kn : gI t 7 n = kd := by rw [t7, if_pos rfl]
  have vn : gI t 8 n = v := by rw [t8, if_pos rfl]
  have el1 : own_lp t (n + 1) = own_lp s n + run := by
    rw [own_lp, el, kn, vn]
    rcases hr with ⟨r1, r2⟩ | ⟨r1, r2⟩
    · rw [if_pos r1, r2]
    · rw [if_neg (by rw [r1]; decide)]
      have := ix_int (i := v) (by omega); omega
  have eo1 : own_op O B t (n + 1) = q := by rw [own_op, eo, kn, vn, hq]
  refine hQ t (fun c j h1 h2 _ h4 => tc c j h1 h2 fun z => (h4 z).1) ?_ kn vn low
  unfold own_DL
  rw [el1, eo1, t23, e1, tc 0 25 (by decide) (by decide) (by omega)]
  refine ⟨by simp, by rw [a2]; simp, by simp, by omega, ?_, fun i hi => ?_, fun j hj => absurd hj (by omega), fun i h1 h2 => ?_, fun z => by omega⟩
  · rcases hr with ⟨r1, r2⟩ | ⟨r1, r2⟩
    · omega
    · rw [if_neg (by rw [r1]; decide)] at hq
      have := ix_int (i := v) (by omega); omega
  · by_cases z : i = n
    · subst z
      unfold own_ok
      rw [kn, vn, el, eo]
      rcases hr with ⟨r1, r2⟩ | ⟨r1, r2⟩
      · obtain ⟨k1, k2, k3⟩ := hk r1
        rw [if_pos r1] at hq
        refine .inl ⟨r1, k1, k2, by omega, fun j hj => ?_⟩
        rw [tc 1 _ (by decide) (by decide) (by omega), tc 2 _ (by decide) (by decide) (by omega)]; exact k3 j hj
      · rw [if_neg (by rw [r1]; decide)] at hq
        have kv := ix_int (i := v) (by omega)
        refine .inr ⟨r1, by omega, fun j hj => ?_⟩
        rw [tc 9 _ (by decide) (by decide) (by omega), tc 2 _ (by decide) (by decide) (by omega)]; exact a7 j (by omega)
    · exact own_ok_eq (n := n) (by omega) low (fun j => tc 1 j (by decide) (by decide) (by omega)) (fun j => tc 2 j (by decide) (by decide) (by omega)) (fun j _ => tc 9 j (by decide) (by decide) (by omega)) (a6 i (by omega))
  · by_cases z : i + 1 = n
    · rw [z, kn]
      rcases hr with ⟨r1, r2⟩ | ⟨r1, r2⟩
      · exact r1
      · rcases hl r1 with y | y
        · omega
        · rw [(low i (by omega)).1] at h2
          have : n - 1 = i := by omega
          rw [this, h2] at y; exact absurd y (by decide)
    · rw [(low (i + 1) (by omega)).1]
      rw [(low i (by omega)).1] at h2
      exact a8 i (by omega) h2
/-- keepLiteral -/
theorem own_33 (s : St) (O B : Nat) (n run p : Nat) (h : own_DL O B s n run p) (p128 : p < 128) (Q : St → Prop) (hQ : ∀ t, own_sc s t → own_DL O B t n (run + 1) (p + 1) → (∀ j, gI t 7 j = gI s 7 j ∧ gI t 8 j = gI s 8 j) → (∀ c j, c = 0 → j ≠ 25 → gI t c j = gI s c j) → Q t) : calV PP 33 10 [.ref 0, .int (gI s 2 p)] s Q := by
  obtain ⟨a1, a2, a3, a4, a5, a6, a7, a8, a9⟩ := h
  apply c33_in
  have l128 : (gI s 0 25).toInt < 128 := by omega
  refine ⟨fun _ => ⟨⟨by omega, l128⟩, ?_⟩, fun z => absurd (by rw [i32_lt]; simpa using l128) z⟩
  have i25 : ix (gI s 0 25) = own_lp s n + run := by have := ix_int (i := gI s 0 25) (by omega); omega
  rw [i25]
  have e1 : (gI s 0 25 + 1).toInt = own_lp s n + run + 1 := by rw [i32_add] <;> rw [a2] <;> simp <;> omega
  generalize ht : sI (sI s 9 (own_lp s n + run) (gI s 2 p)) 0 25 (gI s 0 25 + 1) = t
  have t9 : ∀ j, gI t 9 j = if j = own_lp s n + run then gI s 2 p else gI s 9 j := fun j => by rw [← ht]; simp [gI_sI]
  have tc : ∀ c j, c ≠ 9 → (c = 0 → j ≠ 25) → gI t c j = gI s c j := fun c j h1 h3 => by
    rw [← ht, gI_sI, if_neg (fun z => h3 z.1 z.2), gI_sI, if_neg (by omega)]
  have t25 : gI t 0 25 = gI s 0 25 + 1 := by rw [← ht]; simp [gI_sI]
  have low : ∀ j, j < n → gI t 7 j = gI s 7 j ∧ gI t 8 j = gI s 8 j := fun j _ => ⟨tc 7 j (by decide) (by omega), tc 8 j (by decide) (by omega)⟩
  have el := own_lp_eq (s := s) (t := t) n low
  have eo := own_op_eq (O := O) (B := B) (s := s) (t := t) n low
  refine hQ t (fun c j h1 h2 h3 h4 => tc c j h3 fun z => (h4 z).2.1) ?_ (fun j => ⟨tc 7 j (by decide) (by omega), tc 8 j (by decide) (by omega)⟩) (fun c j hc hj => tc c j (by omega) fun _ => hj)
  unfold own_DL
  rw [el, eo, t25, e1, tc 0 23 (by decide) (by omega)]
  refine ⟨a1, by omega, by omega, a4, a5, fun i hi => own_ok_eq hi low (fun j => tc 1 j (by decide) (by omega)) (fun j => tc 2 j (by decide) (by omega)) (fun j hj => ?_) (a6 i hi), fun j hj => ?_, fun i h1 h2 => ?_, a9⟩
  · have := own_lp_mono (s := s) n (i + 1) (by omega)
    rw [t9, if_neg (by omega)]
  · rw [t9, tc 2 _ (by decide) (by omega)]
    by_cases z : j = run
    · rw [if_pos (by omega)]
      have : own_op O B s n + j = p := by omega
      rw [this]
    · rw [if_neg (by omega)]; exact a7 j (by omega)
  · rw [tc 7 _ (by decide) (by omega)] at h2 ⊢; exact a8 i h1 h2
theorem own_sc_tr {s t u : St} (h : own_sc s t) (k : own_sc t u) : own_sc s u := fun c j a b d e => (k c j a b d e).trans (h c j a b d e)
theorem own_sb_L {s : St} {O N B v p : Nat} (hB : 1 ≤ B) (h : own_sb s O N (v * B) p B) : own_L O B v = B ∧ v < (O + B - 1) / B ∧ p + B ≤ N := by
  have a := h (B - 1) (by omega)
  have b := h 0 (by omega)
  refine ⟨?_, own_bc (by omega) (by omega), by omega⟩
  unfold own_L
  rw [if_pos (by omega), if_neg (by omega)]
/-- scanNew -/
theorem own_34 (s : St) {B O N : Nat} (K : own_K s B O N) (hb : (gI s 0 15).toInt = ((O + B - 1) / B : Nat)) (b64 : (O + B - 1) / B ≤ 64) (h23 : gI s 0 23 = 0) (h25 : gI s 0 25 = 0) (Q : St → Prop) (h : ∀ t n, own_sc s t → own_DL O B t n 0 N → Q t) : calV PP 34 10 [.ref 0] s Q := by
  obtain ⟨h9, h11, h13, B2, B16, O1, N1⟩ := K
  have K : own_K s B O N := ⟨h9, h11, h13, B2, B16, O1, N1⟩
  apply c34_in
  have key : ∀ m p run n : Nat, ∀ (x1 x2 x3 x4 : Int32) (u : St), own_sc s u → own_DL O B u n run p → (n = 0 ∨ gI u 7 (n - 1) = 1) → p ≤ N → N - p ≤ m → x1.toInt = p → x2.toInt = run → (0 ≤ x4.toInt ∧ x4.toInt ≤ p) → wpcV PP 34 cm34 10 9 [some (.ref 0), some (.int x1), some (.int x2), some (.int x3), some (.int x4), none, none, none] [] u Q := by
    intro m
    induction m with
    | zero =>
      intro p run n x1 x2 x3 x4 u hu hd hl hp hm e1 e2 e4
      have Ku := own_sc_K hu K
      have pN : p = N := by omega
      subst pN
      have fin : wpcV PP 34 cm34 10 179 [some (.ref 0), none, some (.int x2), none, none, none, none, none] [] u Q := by
        apply c34_179
        refine ⟨fun z => ?_, fun z => ?_⟩
        · rw [i32_lt, e2] at z
          simp at z
          have k2 := ix_int (i := x2) (by omega)
          have d3 := hd.2.2.1
          refine own_em u O B n run p p 2 x2 hd (by have := hd.2.2.2.1; omega) (by omega) (by rw [if_neg (by decide)]; omega) (by omega) (.inr ⟨rfl, e2⟩) (fun q => absurd q (by decide)) (fun _ => hl) _ fun t ht hd' _ _ _ => h t _ (own_sc_tr hu ht) hd'
        · rw [i32_lt, e2] at z
          simp at z
          subst z
          exact h u n hu hd
      refine c34_9 _ _ _ _ _ _ ⟨fun _ => ⟨fun z => absurd z (by rw [i32_lt, e1, Ku.2.2.1]; omega), fun _ => fin⟩, fun _ => fin⟩
    | succ m ih =>
      intro p run n x1 x2 x3 x4 u hu hd hl hp hm e1 e2 e4
      have Ku := own_sc_K hu K
      by_cases pN : p = N
      · exact ih p run n x1 x2 x3 x4 u hu hd hl hp (by omega) e1 e2 e4
      have pl : p < N := by omega
      have k1 : ix x1 = p := by have := ix_int (i := x1) (by omega); omega
      -- the second half of a turn
      have step : ∀ (u : St) (y3 w v : Int32), own_sc s u → own_DL O B u n run p → (n = 0 ∨ gI u 7 (n - 1) = 1) → (v.toInt < 0 ∨ (0 ≤ v.toInt ∧ ix v < (O + B - 1) / B ∧ w.toInt = own_L O B (ix v) ∧ 1 ≤ w.toInt ∧ p + own_L O B (ix v) ≤ N ∧ ∀ j, j < own_L O B (ix v) → gI u 1 (ix v * B + j) = gI u 2 (p + j))) → wpcV PP 34 cm34 10 96 [some (.ref 0), some (.int x1), some (.int x2), some (.int y3), some (.int x4), none, some (.int w), some (.int v)] [] u Q := by
        intro u y3 w v hu hd hl hv
        have Ku := own_sc_K hu K
        apply c34_96
        refine ⟨fun vn => ⟨⟨by omega, by show _ < (128 : Int); omega⟩, ?_⟩, fun vn => ?_⟩
        · rw [k1]
          refine own_33 u O B n run p hd (by omega) _ fun t ht hd' t7 t0 => ?_
          have scT := own_sc_tr hu ht
          have Kt := own_sc_K scT K
          have a1 : (x1 + 1).toInt = (p + 1 : Nat) := by rw [i32_add] <;> rw [e1] <;> simp <;> omega
          have a2 : (x2 + 1).toInt = (run + 1 : Nat) := by have := hd.2.2.1; rw [i32_add] <;> rw [e2] <;> simp <;> omega
          have a4 : (x4 + 1).toInt = x4.toInt + 1 := by rw [i32_add] <;> simp <;> omega
          have nxt : ∀ (t' : St) y, own_w2 t t' → wpcV PP 34 cm34 10 170 [some (.ref 0), some (.int x1), some (.int (x2 + 1)), some (.int y), some (.int x4), none, none, none] [] t' Q := by
            intro t' y w2
            refine c34_170 _ _ _ _ _ _ (c34_173 _ _ _ _ _ _ (ih (p + 1) (run + 1) n _ _ _ _ t' (own_sc_w scT w2) (own_DL_w w2 hd') ?_ (by omega) (by omega) a1 a2 (by omega)))
            rw [w2 7 _ (by omega), (t7 _).1]; exact hl
          have nxt0 : wpcV PP 34 cm34 10 168 [some (.ref 0), some (.int x1), some (.int (x2 + 1)), none, some (.int x4), none, none, none] [] t Q := c34_168 _ _ _ _ _ (nxt t _ fun _ _ _ => rfl)
          exact ⟨fun _ => nxt0, fun _ => ⟨fun _ => own_28 t Kt x1 (by omega) _ fun t' w2 => nxt t' _ w2, fun _ => nxt0⟩⟩
        · rw [i32_lt] at vn
          simp at vn
          rcases hv with q | ⟨v0, v1, wv, w1, pw, sb⟩
          · omega
          have cp : ∀ (u : St) n', own_sc s u → own_DL O B u n' 0 p → (n' < 128) → (∀ j, gI u 1 j = gI s 1 j) → (∀ j, gI u 2 j = gI s 2 j) → (∀ j, j < own_L O B (ix v) → gI s 1 (ix v * B + j) = gI s 2 (p + j)) → ∀ y2 : Int32, y2.toInt = 0 → wpcV PP 34 cm34 10 113 [some (.ref 0), some (.int x1), some (.int y2), none, some (.int x4), none, some (.int w), some (.int v)] [] u Q := by
            intro u n' hu hd n128 u1 u2 sb y2 ey
            apply c34_113
            have d3 := hd.2.2.1
            refine own_em u O B n' 0 p (p + own_L O B (ix v)) 1 v hd n128 (by omega) (by rw [if_pos rfl]; omega) (by omega) (.inl ⟨rfl, rfl⟩) (fun _ => ⟨v0, v1, fun j hj => ?_⟩) (fun q => absurd q (by decide)) _ fun t ht hd' t7 _ _ => ?_
            · rw [u1, u2]
              have : own_op O B u n' + j = p + j := by omega
              rw [this]; exact sb j hj
            · have a1 : (x1 + w).toInt = (p + own_L O B (ix v) : Nat) := by have := own_L_le O B (ix v); rw [i32_add] <;> rw [e1, wv] <;> omega
              have a4 : (x4 + 1).toInt = x4.toInt + 1 := by rw [i32_add] <;> simp <;> omega
              exact c34_173 _ _ _ _ _ _ (ih _ 0 (n' + 1) _ _ _ _ t (own_sc_tr hu ht) hd' (.inr t7) pw (by omega) a1 ey (by omega))
          have U1 : ∀ (t : St), own_sc s t → (∀ j, gI t 1 j = gI s 1 j) ∧ (∀ j, gI t 2 j = gI s 2 j) := fun t ht => ⟨fun j => ht 1 j (by decide) (by decide) (by decide) (by omega), fun j => ht 2 j (by decide) (by decide) (by decide) (by omega)⟩
          have sb' : ∀ j, j < own_L O B (ix v) → gI s 1 (ix v * B + j) = gI s 2 (p + j) := fun j hj => by rw [← (U1 u hu).1, ← (U1 u hu).2]; exact sb j hj
          have d3 := hd.2.2.1
          have d4 := hd.2.2.2.1
          refine ⟨fun z => ?_, fun z => ?_⟩
          · rw [i32_lt, e2] at z
            simp at z
            have k2 := ix_int (i := x2) (by omega)
            refine own_em u O B n run p p 2 x2 hd (by omega) (by omega) (by rw [if_neg (by decide)]; omega) (by omega) (.inr ⟨rfl, e2⟩) (fun q => absurd q (by decide)) (fun _ => hl) _ fun t ht hd' _ _ _ => ?_
            have sc' := own_sc_tr hu ht
            exact cp t (n + 1) sc' hd' (by omega) (U1 t sc').1 (U1 t sc').2 sb' 0 (by decide)
          · rw [i32_lt, e2] at z
            simp at z
            subst z
            exact cp u n hu hd (by omega) (U1 u hu).1 (U1 u hu).2 sb' x2 e2
      refine c34_9 _ _ _ _ _ _ ⟨fun _ => ⟨fun _ w ew => ?_, fun z => absurd (by rw [i32_lt, e1, Ku.2.2.1]; omega) z⟩, fun z => absurd (by rw [i32_lt]; simp; omega) z⟩
      have er : (gI u 0 13 - x1).toInt = (N - p : Nat) := by have := Ku.2.2.1; rw [i32_sub] <;> rw [this, e1] <;> omega
      have u15 : (gI u 0 15).toInt = ((O + B - 1) / B : Nat) := by rw [hu 0 15 (by decide) (by decide) (by decide) (by decide)]; exact hb
      refine ⟨fun z => ?_, fun z => ?_⟩
      · rw [if_pos z] at ew
        rw [i32_lt, er, Ku.1] at z
        have kr := ix_int (i := gI u 0 13 - x1) (by omega)
        refine own_31 u Ku u15 b64 x1 _ (by omega) (by omega) _ (fun _ => step u x3 w (-1) hu hd hl (.inl (by decide))) fun v b0 ev eL sb => step u x3 w v hu hd hl (.inr ?_)
        have kv := ix_int (i := v) (by omega)
        have iv : ix v = (O + B - 1) / B - 1 := by omega
        rw [iv, eL, ew, er]
        refine ⟨by omega, by omega, by omega, by omega, by omega, fun j hj => ?_⟩
        have := (sb j hj).2.2
        rw [k1] at this; exact this
      · rw [if_neg z] at ew
        rw [i32_lt, er, Ku.1] at z
        have full : ∀ (t : St) y, own_w2 u t → wpcV PP 34 cm34 10 77 [some (.ref 0), some (.int x1), some (.int x2), some (.int y), some (.int x4), none, some (.int w), none] [] t Q := by
          intro t y w2
          have sc' := own_sc_w hu w2
          have Kt := own_sc_K sc' K
          have hd' := own_DL_w w2 hd
          have hl' : n = 0 ∨ gI t 7 (n - 1) = 1 := by rw [w2 7 _ (by omega)]; exact hl
          apply c34_77
          refine own_30 t Kt x1 (by omega) _ (step t y w (-1) sc' hd' hl' (.inl (by decide))) fun v hv sb => step t y w v sc' hd' hl' (.inr ?_)
          rw [k1] at sb
          obtain ⟨l1, l2, l3⟩ := own_sb_L (by omega) sb
          rw [l1, ew, Ku.1]
          exact ⟨hv.1, l2, rfl, by omega, l3, fun j hj => (sb j hj).2.2⟩
        exact ⟨fun _ => own_26 u Ku x1 _ (by omega) (by rw [Ku.1]; omega) _ fun t w2 => full t _ w2, fun _ => full u _ fun _ _ _ => rfl⟩
  refine key N 0 0 0 0 0 0 0 s (fun _ _ _ _ _ _ => rfl) ?_ (.inl rfl) (by omega) (by omega) (by decide) (by decide) (by decide)
  exact ⟨by rw [h23]; rfl, by rw [h25]; rfl, rfl, Nat.le_refl _, Nat.le_refl _, fun i hi => absurd hi (by omega), fun j hj => absurd hj (by omega), fun i hi => absurd hi (by omega), fun _ => rfl⟩

/-! computeDelta and patch -/
theorem own_DL_q {O B : Nat} {s t : St} {n run p : Nat} (e : ∀ c j, c ≠ 0 → c ≠ 10 → gI t c j = gI s c j) (e23 : gI t 0 23 = gI s 0 23) (e25 : gI t 0 25 = gI s 0 25) (h : own_DL O B s n run p) : own_DL O B t n run p := by
  have el := own_lp_eq (s := s) (t := t) n fun j hj => ⟨e 7 j (by decide) (by decide), e 8 j (by decide) (by decide)⟩
  have eo := own_op_eq (O := O) (B := B) (s := s) (t := t) n fun j hj => ⟨e 7 j (by decide) (by decide), e 8 j (by decide) (by decide)⟩
  obtain ⟨a1, a2, a3, a4, a5, a6, a7, a8, a9⟩ := h
  unfold own_DL
  rw [el, eo, e23, e25]
  refine ⟨a1, a2, a3, a4, a5, fun i hi => own_ok_eq hi (fun j _ => ⟨e 7 j (by decide) (by decide), e 8 j (by decide) (by decide)⟩) (fun j => e 1 j (by decide) (by decide)) (fun j => e 2 j (by decide) (by decide)) (fun j _ => e 9 j (by decide) (by decide)) (a6 i hi), fun j hj => ?_, fun i h1 h2 => ?_, a9⟩
  · rw [e 9 _ (by decide) (by decide), e 2 _ (by decide) (by decide)]; exact a7 j hj
  · rw [e 7 _ (by decide) (by decide)] at h2 ⊢; exact a8 i h1 h2
theorem own_6 (s : St) {B O N : Nat} (K : own_K s B O N) (hb : gI s 0 14 ≠ 0 → (gI s 0 15).toInt = ((O + B - 1) / B : Nat) ∧ (O + B - 1) / B ≤ 64) (Q : Int32 → St → Prop) (h0 : gI s 0 14 = 0 → Q (-1) s) (h1 : gI s 0 14 ≠ 0 → ∀ v t n, (∀ c j, c ≠ 7 → c ≠ 8 → c ≠ 9 → (c = 0 → j ≤ 15) → gI t c j = gI s c j) → gI t 0 20 = 1 → gI t 0 26 = 0 → gI t 0 28 = 0 → v = gI t 0 23 → own_DL O B t n 0 N → Q v t) : calI PP 6 10 [.ref 0] s Q := by
  apply c6_in
  refine ⟨h0, fun sg => ?_⟩
  apply c18_in
  apply c19_in
  generalize hu : sI (sI (sI (sI (sI s 0 20 0) 0 23 0) 0 25 0) 0 26 0) 0 28 0 = u
  have uc : ∀ c j, (c = 0 → j ≤ 15) → gI u c j = gI s c j := fun c j hc => by
    rw [← hu, gI_sI, if_neg (fun z => by have := hc z.1; omega), gI_sI, if_neg (fun z => by have := hc z.1; omega), gI_sI, if_neg (fun z => by have := hc z.1; omega), gI_sI, if_neg (fun z => by have := hc z.1; omega), gI_sI, if_neg (fun z => by have := hc z.1; omega)]
  have Ku : own_K u B O N := by
    obtain ⟨h9, h11, h13, r⟩ := K
    exact ⟨by rw [uc 0 9 (by decide)]; exact h9, by rw [uc 0 11 (by decide)]; exact h11, by rw [uc 0 13 (by decide)]; exact h13, r⟩
  refine own_34 u Ku (by rw [uc 0 15 (by decide)]; exact (hb sg).1) (hb sg).2 (by rw [← hu]; simp [gI_sI]) (by rw [← hu]; simp [gI_sI]) _ fun t n ht hd => ?_
  refine h1 sg _ _ n (fun c j a b d e => ?_) (by simp [gI_sI]) ?_ ?_ (by simp [gI_sI]) (own_DL_q (fun c j hc _ => by rw [gI_sI, if_neg (fun z => hc z.1)]) (by simp [gI_sI]) (by simp [gI_sI]) hd)
  · rw [gI_sI, if_neg (fun z => by have := e z.1; omega), ht c j a b d (fun z => by have := e z; omega), uc c j e]
  · rw [gI_sI, if_neg (by omega), ht 0 26 (by decide) (by decide) (by decide) (by decide), ← hu]; simp [gI_sI]
  · rw [gI_sI, if_neg (by omega), ht 0 28 (by decide) (by decide) (by decide) (by decide), ← hu]; simp [gI_sI]
/-- the output grows: from o on it holds f -/
def own_gw (u t : St) (o l : Nat) (f : Nat → Int32) : Prop := (∀ c j, c ≠ 10 → (c = 0 → j ≠ 28) → gI t c j = gI u c j) ∧ (gI t 0 28).toInt = o + l ∧ (∀ j, j < o → gI t 10 j = gI u 10 j) ∧ (∀ j, j < l → gI t 10 (o + j) = f j)
theorem own_gw_s {u t : St} {o l : Nat} {f : Nat → Int32} (h : own_gw u t o l f) (hl : o + l < 128) (x : Int32) (hx : x = f l) : own_gw u (sI (sI t 10 (ix (gI t 0 28)) x) 0 28 (gI t 0 28 + 1)) o (l + 1) f := by
  obtain ⟨a, b, c, d⟩ := h
  have i28 : ix (gI t 0 28) = o + l := by have := ix_int (i := gI t 0 28) (by omega); omega
  have e1 : (gI t 0 28 + 1).toInt = o + l + 1 := by rw [i32_add] <;> rw [b] <;> simp <;> omega
  rw [i28]
  refine ⟨fun c' j h1 h2 => ?_, ?_, fun j hj => ?_, fun j hj => ?_⟩
  · rw [gI_sI, if_neg (fun z => h2 z.1 z.2), gI_sI, if_neg (fun z => h1 z.1)]; exact a c' j h1 h2
  · rw [gI_sI, if_pos ⟨rfl, rfl⟩, e1]; omega
  · rw [gI_sI, if_neg (by omega), gI_sI, if_neg (by omega)]; exact c j hj
  · rw [gI_sI, if_neg (by omega), gI_sI]
    by_cases z : j = l
    · rw [if_pos (by omega), z]; exact hx
    · rw [if_neg (by omega)]; exact d j (by omega)
theorem own_35 (u : St) {B O N : Nat} (K : own_K u B O N) (hb : (gI u 0 15).toInt = ((O + B - 1) / B : Nat)) (b64 : (O + B - 1) / B ≤ 64) (v : Int32) (v0 : 0 ≤ v.toInt) (v1 : ix v < (O + B - 1) / B) (o : Nat) (ho : (gI u 0 28).toInt = o) (ol : o + own_L O B (ix v) ≤ 128) (Q : St → Prop) (h : ∀ t, own_gw u t o (own_L O B (ix v)) (fun j => gI u 1 (ix v * B + j)) → Q t) : calV PP 35 10 [.ref 0, .int v] u Q := by
  have kv := ix_int v0
  have hv : 0 ≤ v.toInt ∧ v.toInt < 64 := by omega
  obtain ⟨e0, e1, e2, e3⟩ := own_lnL K v hv
  have lB := own_L_le O B (ix v)
  obtain ⟨h9, h11, h13, B2, B16, O1, N1⟩ := K
  apply c35_in
  refine ⟨fun z => absurd z (by rw [i32_lt]; simp; omega), fun _ => ⟨fun _ => own_22 u v hv _ ?_, fun z => absurd (by rw [i32_lt, hb]; omega) z⟩⟩
  generalize hx : v * gI u 0 9 = x at *
  refine loop_up (F := fun i => ∀ t, own_gw u t o (ix i) (fun j => gI u 1 (ix v * B + j)) → wpcV PP 35 cm35 10 29 [some (.ref 0), none, some (.int x), some (.int (own_ln u v)), some (.int i), none] [] t Q) (own_L O B (ix v) : Int) (by omega) (fun i i0 i1 e ih t ht => ?_) (fun i hi t ht => ?_) 0 (by decide) (by simp) u ⟨fun _ _ _ _ => rfl, by rw [ho]; simp [ix], fun _ _ => rfl, fun j hj => absurd hj (by simp [ix])⟩
  · have ki := ix_int i0
    have kj := ix_int (i := i + 1) (by omega)
    have ej : ix (i + 1) = ix i + 1 := by omega
    have inO := own_L_in (O := O) (B := B) (k := ix v) (j := ix i) (by omega)
    have ex : (x + i).toInt = (ix v * B + ix i : Nat) := by rw [i32_add] <;> rw [e1] <;> omega
    have ei : ix (x + i) = ix v * B + ix i := by have := ix_int (i := x + i) (by omega); omega
    have t11 : gI t 0 11 = gI u 0 11 := ht.1 0 11 (by decide) (by decide)
    have t28 := ht.2.1
    refine c35_29 _ _ _ _ _ ⟨fun _ => ⟨fun _ => ⟨fun z => absurd z (by rw [i32_lt, ex]; simp; omega), fun _ => ⟨fun _ => ⟨fun _ => ⟨⟨by omega, by show _ < (128 : Int); omega⟩, ⟨by omega, by show _ < (128 : Int); omega⟩, c35_98 _ _ _ _ _ (ih _ ?_)⟩, fun z => absurd (by rw [i32_lt, t28]; simp; omega) z⟩, fun z => absurd (by rw [i32_lt, ex, t11, h11]; omega) z⟩⟩, fun z => absurd (by rw [i32_lt]; simp; omega) z⟩, fun z => absurd (by rw [i32_lt, e0]; exact i1) z⟩
    rw [ej]
    refine own_gw_s ht (by omega) _ ?_
    rw [ei, ht.1 1 _ (by decide) (by omega)]
  · have : ix i = own_L O B (ix v) := by have := ix_int (i := i) (by omega); omega
    rw [this] at ht
    exact c35_29 _ _ _ _ _ ⟨fun z => absurd z (by rw [i32_lt, e0, hi]; omega), fun _ => h t ht⟩
theorem own_36 (u : St) (x n : Int32) (l m o : Nat) (hx : x.toInt = l) (hn : n.toInt = m) (hl : l + m ≤ 128) (hL : ((l + m : Nat) : Int) ≤ (gI u 0 25).toInt) (ho : (gI u 0 28).toInt = o) (om : o + m ≤ 128) (Q : Int32 → St → Prop) (h : ∀ (y : Int32) (t : St), y.toInt = (l + m : Nat) → own_gw u t o m (fun j => gI u 9 (l + j)) → Q y t) : calI PP 36 10 [.ref 0, .int x, .int n] u Q := by
  apply c36_in
  refine loop_up (F := fun i => ∀ (t : St) (y : Int32), y.toInt = (l + ix i : Nat) → own_gw u t o (ix i) (fun j => gI u 9 (l + j)) → wpcI PP 36 cm36 10 5 [some (.ref 0), none, some (.int n), some (.int y), some (.int i)] [] t Q) (m : Int) (by omega) (fun i i0 i1 e ih t y hy ht => ?_) (fun i hi t y hy ht => ?_) 0 (by decide) (by simp) u x (by rw [hx]; simp [ix]) ⟨fun _ _ _ _ => rfl, by rw [ho]; simp [ix], fun _ _ => rfl, fun j hj => absurd hj (by simp [ix])⟩
  · have ki := ix_int i0
    have kj := ix_int (i := i + 1) (by omega)
    have ej : ix (i + 1) = ix i + 1 := by omega
    have iy : ix y = l + ix i := by have := ix_int (i := y) (by omega); omega
    have ey : (y + 1).toInt = (l + ix (i + 1) : Nat) := by rw [i32_add] <;> rw [hy] <;> simp <;> omega
    have t25 : gI t 0 25 = gI u 0 25 := ht.1 0 25 (by decide) (by decide)
    have t28 := ht.2.1
    refine c36_5 _ _ _ _ _ ⟨fun _ => ⟨fun _ => ⟨fun z => absurd z (by rw [i32_lt]; simp; omega), fun _ => ⟨fun _ => ⟨fun _ => ⟨⟨by omega, by show _ < (128 : Int); omega⟩, ⟨by omega, by show _ < (128 : Int); omega⟩, c36_66 _ _ _ _ _ (ih _ _ ey ?_)⟩, fun z => absurd (by rw [i32_lt, t28]; simp; omega) z⟩, fun z => absurd (by rw [i32_lt, t25, hy]; omega) z⟩⟩, fun z => absurd (by rw [i32_lt]; simp; omega) z⟩, fun z => absurd (by rw [i32_lt, hn]; exact i1) z⟩
    rw [ej]
    refine own_gw_s ht (by omega) _ ?_
    rw [iy, ht.1 9 _ (by decide) (by omega)]
  · have : ix i = m := by have := ix_int (i := i) (by omega); omega
    rw [this] at ht hy
    exact c36_5 _ _ _ _ _ ⟨fun z => absurd z (by rw [i32_lt, hn, hi]; omega), fun _ => h y t hy ht⟩
theorem own_op_mono {O B : Nat} {s : St} : ∀ n i, i ≤ n → own_op O B s i ≤ own_op O B s n
  | 0, i, h => by have : i = 0 := by omega
                  rw [this]; exact Nat.le_refl _
  | n + 1, i, h => by
    by_cases q : i = n + 1
    · rw [q]; exact Nat.le_refl _
    · have := own_op_mono (O := O) (B := B) (s := s) n i (by omega)
      simp only [own_op]; omega
theorem own_7 (s : St) {B O N : Nat} (K : own_K s B O N) (hb : (gI s 0 15).toInt = ((O + B - 1) / B : Nat) ∧ (O + B - 1) / B ≤ 64) (n : Nat) (hd : own_DL O B s n 0 N) (h20 : gI s 0 20 ≠ 0) (Q : Int32 → St → Prop) (h : ∀ v t, (∀ c j, c ≠ 10 → (c = 0 → j ≠ 26 ∧ j ≠ 28) → gI t c j = gI s c j) → gI t 0 26 = 1 → gI t 0 28 = v → v.toInt = N → (∀ j, j < N → gI t 10 j = gI s 2 j) → Q v t) : calI PP 7 10 [.ref 0] s Q := by
  obtain ⟨a1, a2, a3, a4, a5, a6, a7, a8, a9⟩ := hd
  obtain ⟨h9, h11, h13, B2, B16, O1, N1⟩ := K
  have a3 : own_op O B s n = N := by omega
  apply c7_in
  refine ⟨fun z => absurd z h20, fun _ => ?_⟩
  refine loop_up (F := fun i => ∀ (u : St) (x : Int32), (∀ c j, c ≠ 10 → (c = 0 → j ≠ 28) → gI u c j = gI s c j) → (gI u 0 28).toInt = own_op O B s (ix i) → (∀ j, j < own_op O B s (ix i) → gI u 10 j = gI s 2 j) → x.toInt = own_lp s (ix i) → wpcI PP 7 cm7 10 18 [some (.ref 0), some (.int x), some (.int i)] [] u Q) (n : Int) (by omega) (fun i i0 i1 e ih u x hu ho hj hx => ?_) (fun i hi u x hu ho hj hx => ?_) 0 (by decide) (by simp) _ 0 (fun c j h1 h2 => by rw [gI_sI, if_neg (fun z => h2 z.1 z.2)]) (by rw [gI_sI, if_pos ⟨rfl, rfl⟩]; simp [ix, own_op]) (fun j hj => absurd hj (by simp [ix, own_op])) (by simp [ix, own_lp])
  · have ki := ix_int i0
    have kj := ix_int (i := i + 1) (by omega)
    have ej : ix (i + 1) = ix i + 1 := by omega
    have u23 : gI u 0 23 = gI s 0 23 := hu 0 23 (by decide) (by decide)
    have ib : inb 128 i := ⟨i0, by show _ < (128 : Int); omega⟩
    have u7 : ∀ j, gI u 7 j = gI s 7 j := fun j => hu 7 j (by decide) (by omega)
    have u8 : ∀ j, gI u 8 j = gI s 8 j := fun j => hu 8 j (by decide) (by omega)
    have om := own_op_mono (O := O) (B := B) (s := s) n (ix (i + 1)) (by omega)
    have lm := own_lp_mono (s := s) n (ix (i + 1)) (by omega)
    rw [ej] at om lm
    have Ku : own_K u B O N := ⟨by rw [hu 0 9 (by decide) (by decide)]; exact h9, by rw [hu 0 11 (by decide) (by decide)]; exact h11, by rw [hu 0 13 (by decide) (by decide)]; exact h13, B2, B16, O1, N1⟩
    have ok := a6 (ix i) (by omega)
    -- what a step of growth gives
    have grow : ∀ (t : St) (l : Nat) (f : Nat → Int32) (y : Int32), own_gw u t (own_op O B s (ix i)) l f → own_op O B s (ix i + 1) = own_op O B s (ix i) + l → (∀ j, j < l → f j = gI s 2 (own_op O B s (ix i) + j)) → y.toInt = own_lp s (ix i + 1) → wpcI PP 7 cm7 10 68 [some (.ref 0), some (.int y), some (.int i)] [] t Q := by
      intro t l f y g eo hf hy
      refine c7_68 _ _ _ _ (ih t y (fun c j h1 h2 => by rw [g.1 c j h1 h2]; exact hu c j h1 h2) (by rw [ej, eo, g.2.1]; simp) (fun j hj' => ?_) (by rw [ej]; exact hy))
      rw [ej, eo] at hj'
      by_cases z : j < own_op O B s (ix i)
      · rw [g.2.2.1 j z]; exact hj j z
      · have : j = own_op O B s (ix i) + (j - own_op O B s (ix i)) := by omega
        rw [this, g.2.2.2 _ (by omega)]; exact hf _ (by omega)
    refine c7_18 _ _ _ _ ⟨fun _ => ⟨fun _ => ⟨ib, fun z => ⟨ib, ?_⟩, fun z => ⟨ib, ?_⟩⟩, fun z => absurd (by rw [i32_lt]; simp; omega) z⟩, fun z => absurd (by rw [i32_lt, u23, a1]; exact i1) z⟩
    · rw [u7] at z
      rw [u8]
      rcases ok with ⟨o1, o2, o3, o4, o5⟩ | ⟨o1, _⟩
      · have eo : own_op O B s (ix i + 1) = own_op O B s (ix i) + own_L O B (ix (gI s 8 (ix i))) := by rw [own_op, if_pos z]
        refine own_35 u Ku (by rw [hu 0 15 (by decide) (by decide)]; exact hb.1) hb.2 _ o2 o3 _ ho (by omega) _ fun t g => grow t _ _ x g eo (fun j hj' => ?_) (by rw [own_lp, if_pos z]; simpa using hx)
        show gI u 1 _ = _
        rw [hu 1 _ (by decide) (by omega)]; exact o5 j hj'
      · rw [o1] at z; exact absurd z (by decide)
    · rw [u7] at z
      rw [u8]
      rcases ok with ⟨o1, _⟩ | ⟨o1, o2, o3⟩
      · exact absurd o1 z
      · have kv := ix_int (i := gI s 8 (ix i)) (by omega)
        have eo : own_op O B s (ix i + 1) = own_op O B s (ix i) + ix (gI s 8 (ix i)) := by rw [own_op, if_neg z]
        have el : own_lp s (ix i + 1) = own_lp s (ix i) + ix (gI s 8 (ix i)) := by rw [own_lp, if_neg z]
        refine own_36 u x _ (own_lp s (ix i)) (ix (gI s 8 (ix i))) _ hx (by omega) (by omega) (by rw [hu 0 25 (by decide) (by decide), a2]; omega) ho (by omega) _ fun y t hy g => grow t _ _ y g eo (fun j hj' => ?_) (by rw [el]; exact hy)
        show gI u 9 _ = _
        rw [hu 9 _ (by decide) (by omega)]; exact o3 j hj'
  · have en : ix i = n := by have := ix_int (i := i) (by omega); omega
    rw [en, a3] at ho hj
    have fin : wpcI PP 7 cm7 10 74 [some (.ref 0), none, none] [] u Q := by
      apply c7_74
      refine h _ _ (fun c j h1 h2 => ?_) (by simp [gI_sI]) (by simp [gI_sI]) ho (fun j hj' => ?_)
      · rw [gI_sI, if_neg (fun z => (h2 z.1).1 z.2)]; exact hu c j h1 fun z => (h2 z).2
      · rw [gI_sI, if_neg (by omega)]; exact hj j hj'
    have u23 : gI u 0 23 = gI s 0 23 := hu 0 23 (by decide) (by decide)
    exact c7_18 _ _ _ _ ⟨fun z => absurd z (by rw [i32_lt, u23, a1, hi]; omega), fun _ => fin⟩

/-! the calls on the whole object -/
def own_Iv (s : St) (B O N : Nat) : Prop := own_K s B O N ∧ (gI s 0 14 ≠ 0 → (gI s 0 15).toInt = ((O + B - 1) / B : Nat)) ∧ (gI s 0 20 ≠ 0 → gI s 0 14 ≠ 0 ∧ ∃ n, own_DL O B s n 0 N) ∧ (gI s 0 26 ≠ 0 → gI s 0 20 ≠ 0 ∧ (gI s 0 28).toInt = N ∧ ∀ j, j < N → gI s 10 j = gI s 2 j)
theorem own_b64 {O B : Nat} (hO : O ≤ 128) (hB : 2 ≤ B) : (O + B - 1) / B ≤ 64 := by
  have : (O + B - 1) / B < 65 := Nat.div_lt_of_lt_mul (by omega)
  omega
theorem own_cl (s : St) (Q : St → Prop) (h : ∀ u, (∀ c j, (c = 0 → j ≠ 20 ∧ j ≠ 23 ∧ j ≠ 25 ∧ j ≠ 26 ∧ j ≠ 28) → gI u c j = gI s c j) → gI u 0 20 = 0 → gI u 0 26 = 0 → Q u) : calV PP 18 10 [.ref 0] s (fun s1 => calV PP 19 10 [.ref 0] s1 (fun s2 => Q s2)) := by
  apply c18_in
  apply c19_in
  refine h _ (fun c j hc => ?_) (by simp [gI_sI]) (by simp [gI_sI])
  rw [gI_sI, if_neg (fun z => (hc z.1).2.2.2.2 z.2), gI_sI, if_neg (fun z => (hc z.1).2.2.2.1 z.2), gI_sI, if_neg (fun z => (hc z.1).2.2.1 z.2), gI_sI, if_neg (fun z => (hc z.1).2.1 z.2), gI_sI, if_neg (fun z => (hc z.1).1 z.2)]
theorem own_c0 (a : Int32) (Q : St → Prop) (h : ∀ t (B : Nat), (B : Int) = (if a.toInt < 2 then 2 else if 16 < a.toInt then 16 else a.toInt) → own_Iv t B 0 0 → gI t 0 14 = 0 → gI t 0 20 = 0 → gI t 0 26 = 0 → Q t) : calV PP 0 0 [.ref 0, .int a] s0 Q := by
  apply c0_in
  intro m1 e1 m2 e2
  refine own_cl _ _ fun u uc u20 u26 => ?_
  have hm : m2.toInt = (if a.toInt < 2 then 2 else if 16 < a.toInt then 16 else a.toInt) := by
    have t2 : (2 : Int32).toInt = 2 := by decide
    have t16 : (16 : Int32).toInt = 16 := by decide
    by_cases p : a < 2
    · rw [if_pos p] at e1
      subst e1
      rw [if_neg (by decide)] at e2
      rw [i32_lt, t2] at p
      rw [e2, if_pos p]; rfl
    · rw [if_neg p] at e1
      subst e1
      rw [i32_lt, t2] at p
      rw [if_neg p]
      by_cases r : 16 < m1
      · rw [if_pos r] at e2; rw [i32_lt, t16] at r; rw [e2, if_pos r]; rfl
      · rw [if_neg r] at e2; rw [i32_lt, t16] at r; rw [e2, if_neg r]
  have rg : 2 ≤ m2.toInt ∧ m2.toInt ≤ 16 := by
    rw [hm]; split
    · omega
    · split <;> omega
  have u14 : gI u 0 14 = 0 := by rw [uc 0 14 (by decide)]; simp [gI_sI]
  refine h u m2.toInt.toNat (by rw [Int.toNat_of_nonneg (by omega), hm]) ⟨⟨?_, ?_, ?_, by omega, by omega, by omega, by omega⟩, fun z => absurd u14 z, fun z => absurd u20 z, fun z => absurd u26 z⟩ u14 u20 u26
  · rw [uc 0 9 (by decide), Int.toNat_of_nonneg (by omega)]; simp [gI_sI]
  · rw [uc 0 11 (by decide)]; simp [gI_sI]
  · rw [uc 0 13 (by decide)]; simp [gI_sI]
theorem own_o3 (s : St) {B O N : Nat} (I : own_Iv s B O N) (b : Int32) (Q : Int32 → St → Prop) (h0 : (gI s 0 14 ≠ 0 ∨ O = 128) → Q 0 s) (h1 : gI s 0 14 = 0 → O < 128 → ∀ t, own_Iv t B (O + 1) N → (∀ c j, c ≠ 1 → (c = 0 → j ≠ 11) → gI t c j = gI s c j) → (∀ j, gI t 1 j = if j = O then b &&& 255 else gI s 1 j) → Q 1 t) : calI PP 3 10 [.ref 0, .int b] s Q := by
  obtain ⟨⟨h9, h11, h13, B2, B16, O1, N1⟩, i2, i3, i4⟩ := I
  apply c3_in
  refine ⟨fun z => ⟨fun l => ⟨⟨by omega, ?_⟩, ?_⟩, fun l => h0 (.inr ?_)⟩, fun z => h0 (.inl z)⟩
  · rw [i32_lt] at l; simpa using l
  · rw [i32_lt, h11] at l
    simp at l
    have i11 : ix (gI s 0 11) = O := by have := ix_int (i := gI s 0 11) (by omega); omega
    have e1 : (gI s 0 11 + 1).toInt = (O + 1 : Nat) := by rw [i32_add] <;> rw [h11] <;> simp <;> omega
    rw [i11]
    have d20 : gI s 0 20 = 0 := Classical.byContradiction fun q => (i3 q).1 z
    have d26 : gI s 0 26 = 0 := Classical.byContradiction fun q => (i4 q).1 d20
    have tc : ∀ c j, c ≠ 1 → (c = 0 → j ≠ 11) → gI (sI (sI s 1 O (b &&& 255)) 0 11 (gI s 0 11 + 1)) c j = gI s c j := fun c j q r => by rw [gI_sI, if_neg (fun y => r y.1 y.2), gI_sI, if_neg (fun y => q y.1)]
    refine h1 z (by omega) _ ⟨⟨by rw [tc 0 9 (by decide) (by decide)]; exact h9, by rw [gI_sI, if_pos ⟨rfl, rfl⟩, e1], by rw [tc 0 13 (by decide) (by decide)]; exact h13, B2, B16, by omega, N1⟩, fun q => absurd (by rw [tc 0 14 (by decide) (by decide)]; exact z) q, fun q => absurd (by rw [tc 0 20 (by decide) (by decide)]; exact d20) q, fun q => absurd (by rw [tc 0 26 (by decide) (by decide)]; exact d26) q⟩ tc fun j => by simp [gI_sI]
  · rw [i32_lt, h11] at l; simp at l; omega
theorem own_o4 (s : St) {B O N : Nat} (I : own_Iv s B O N) (b : Int32) (Q : Int32 → St → Prop) (h0 : N = 128 → Q 0 s) (h1 : N < 128 → ∀ t, own_Iv t B O (N + 1) → (∀ c j, c ≠ 2 → (c = 0 → j ≤ 15 ∧ j ≠ 13) → gI t c j = gI s c j) → (∀ j, gI t 2 j = if j = N then b &&& 255 else gI s 2 j) → gI t 0 20 = 0 → gI t 0 26 = 0 → Q 1 t) : calI PP 4 10 [.ref 0, .int b] s Q := by
  obtain ⟨⟨h9, h11, h13, B2, B16, O1, N1⟩, i2, i3, i4⟩ := I
  apply c4_in
  refine ⟨fun l => ⟨⟨by omega, ?_⟩, ?_⟩, fun l => h0 ?_⟩
  · rw [i32_lt] at l; simpa using l
  · rw [i32_lt, h13] at l
    simp at l
    have i13 : ix (gI s 0 13) = N := by have := ix_int (i := gI s 0 13) (by omega); omega
    have e1 : (gI s 0 13 + 1).toInt = (N + 1 : Nat) := by rw [i32_add] <;> rw [h13] <;> simp <;> omega
    rw [i13]
    refine own_cl _ _ fun u uc u20 u26 => ?_
    have tc : ∀ c j, c ≠ 2 → (c = 0 → j ≤ 15 ∧ j ≠ 13) → gI u c j = gI s c j := fun c j q r => by
      rw [uc c j (fun y => by have := r y; omega), gI_sI, if_neg (fun y => (r y.1).2 y.2), gI_sI, if_neg (fun y => q y.1)]
    have t14 := tc 0 14 (by decide) (by decide)
    refine h1 (by omega) u ⟨⟨by rw [tc 0 9 (by decide) (by decide)]; exact h9, by rw [tc 0 11 (by decide) (by decide)]; exact h11, by rw [uc 0 13 (by decide), gI_sI, if_pos ⟨rfl, rfl⟩, e1], B2, B16, O1, by omega⟩, fun q => by rw [tc 0 15 (by decide) (by decide)]; rw [t14] at q; exact i2 q, fun q => absurd u20 q, fun q => absurd u26 q⟩ tc (fun j => ?_) u20 u26
    rw [uc 2 j (by omega)]; simp [gI_sI]
  · rw [i32_lt, h13] at l; simp at l; omega
theorem own_o5 (s : St) {B O N : Nat} (I : own_Iv s B O N) (Q : Int32 → St → Prop) (h0 : gI s 0 14 ≠ 0 → Q (-1) s) (h1 : gI s 0 14 = 0 → ∀ (v : Int32) (t : St), v.toInt = ((O + B - 1) / B : Nat) → v = (gI s 0 11 + gI s 0 9 - 1) / gI s 0 9 → own_Iv t B O N → (∀ c j, c ≠ 3 → c ≠ 4 → c ≠ 5 → c ≠ 6 → (c = 0 → j ≠ 14 ∧ j ≠ 15) → gI t c j = gI s c j) → gI t 0 14 = 1 → Q v t) : calI PP 5 10 [.ref 0] s Q := by
  have I' := I
  obtain ⟨⟨h9, h11, h13, B2, B16, O1, N1⟩, i2, i3, i4⟩ := I'
  by_cases z : gI s 0 14 = 0
  · have d20 : gI s 0 20 = 0 := Classical.byContradiction fun q => (i3 q).1 z
    have d26 : gI s 0 26 = 0 := Classical.byContradiction fun q => (i4 q).1 d20
    refine own_5 s z (by omega) (by omega) Q fun bc t e1 e2 e3 tc t14 t15 tk => ?_
    have eb : bc.toInt = ((O + B - 1) / B : Nat) := by
      rw [e2, h11, h9]
      have : (O : Int) + B - 1 = ((O + B - 1 : Nat) : Int) := by omega
      rw [this]; rfl
    refine h1 z bc t eb e1 ⟨⟨by rw [tc 0 9 (by decide) (by decide) (by decide) (by decide) (by decide)]; exact h9, by rw [tc 0 11 (by decide) (by decide) (by decide) (by decide) (by decide)]; exact h11, by rw [tc 0 13 (by decide) (by decide) (by decide) (by decide) (by decide)]; exact h13, B2, B16, O1, N1⟩, fun _ => by rw [t15]; exact eb, fun q => absurd (by rw [tc 0 20 (by decide) (by decide) (by decide) (by decide) (by decide)]; exact d20) q, fun q => absurd (by rw [tc 0 26 (by decide) (by decide) (by decide) (by decide) (by decide)]; exact d26) q⟩ tc t14
  · apply c5_in
    exact ⟨fun q => absurd q z, fun _ => h0 z⟩
theorem own_o6 (s : St) {B O N : Nat} (I : own_Iv s B O N) (Q : Int32 → St → Prop) (h0 : gI s 0 14 = 0 → Q (-1) s) (h1 : gI s 0 14 ≠ 0 → ∀ v t (n : Nat), own_Iv t B O N → (∀ c j, c ≠ 7 → c ≠ 8 → c ≠ 9 → (c = 0 → j ≤ 15) → gI t c j = gI s c j) → gI t 0 20 = 1 → gI t 0 26 = 0 → v = gI t 0 23 → v.toInt = n → own_DL O B t n 0 N → Q v t) : calI PP 6 10 [.ref 0] s Q := by
  obtain ⟨K, i2, i3, i4⟩ := I
  have b64 := own_b64 K.2.2.2.2.2.1 K.2.2.2.1
  refine own_6 s K (fun z => ⟨i2 z, b64⟩) Q h0 fun z v t n tc t20 t26 t28 ev hd => ?_
  have Kt : own_K t B O N := by
    obtain ⟨h9, h11, h13, r⟩ := K
    exact ⟨by rw [tc 0 9 (by decide) (by decide) (by decide) (by decide)]; exact h9, by rw [tc 0 11 (by decide) (by decide) (by decide) (by decide)]; exact h11, by rw [tc 0 13 (by decide) (by decide) (by decide) (by decide)]; exact h13, r⟩
  refine h1 z v t n ⟨Kt, fun _ => by rw [tc 0 15 (by decide) (by decide) (by decide) (by decide)]; exact i2 z, fun _ => ⟨by rw [tc 0 14 (by decide) (by decide) (by decide) (by decide)]; exact z, n, hd⟩, fun q => absurd t26 q⟩ tc t20 t26 ev (by rw [ev]; exact hd.1) hd
theorem own_o7 (s : St) {B O N : Nat} (I : own_Iv s B O N) (Q : Int32 → St → Prop) (h0 : gI s 0 20 = 0 → Q (-1) s) (h1 : gI s 0 20 ≠ 0 → ∀ v t, own_Iv t B O N → (∀ c j, c ≠ 10 → (c = 0 → j ≠ 26 ∧ j ≠ 28) → gI t c j = gI s c j) → gI t 0 26 = 1 → gI t 0 28 = v → v.toInt = N → (∀ j, j < N → gI t 10 j = gI s 2 j) → Q v t) : calI PP 7 10 [.ref 0] s Q := by
  obtain ⟨K, i2, i3, i4⟩ := I
  have b64 := own_b64 K.2.2.2.2.2.1 K.2.2.2.1
  by_cases z : gI s 0 20 = 0
  · apply c7_in
    exact ⟨fun _ => h0 z, fun q => absurd z q⟩
  · obtain ⟨sg, n, hd⟩ := i3 z
    refine own_7 s K ⟨i2 sg, b64⟩ n hd z Q fun v t tc t26 t28 ev out => ?_
    have Kt : own_K t B O N := by
      obtain ⟨h9, h11, h13, r⟩ := K
      exact ⟨by rw [tc 0 9 (by decide) (by decide)]; exact h9, by rw [tc 0 11 (by decide) (by decide)]; exact h11, by rw [tc 0 13 (by decide) (by decide)]; exact h13, r⟩
    have t20 := tc 0 20 (by decide) (by decide)
    refine h1 z v t ⟨Kt, fun _ => by rw [tc 0 15 (by decide) (by decide)]; exact i2 sg, fun _ => ⟨by rw [tc 0 14 (by decide) (by decide)]; exact sg, n, own_DL_q (fun c j a b => tc c j b (fun q => absurd q a)) (tc 0 23 (by decide) (by decide)) (tc 0 25 (by decide) (by decide)) hd⟩, fun _ => ⟨by rw [t20]; exact z, by rw [t28]; exact ev, fun j hj => by rw [tc 2 j (by decide) (by omega)]; exact out j hj⟩⟩ tc t26 t28 ev out
theorem own_17 (s : St) {B O N : Nat} (I : own_Iv s B O N) (i : Int32) (Q : Int32 → St → Prop) (h : Q (if gI s 0 26 ≠ 0 ∧ 0 ≤ i.toInt ∧ i.toInt < N then gI s 2 (ix i) else -1) s) : calI PP 17 10 [.ref 0, .int i] s Q := by
  obtain ⟨K, i2, i3, i4⟩ := I
  have N1 : N ≤ 128 := K.2.2.2.2.2.2
  have e0 : (0 : Int32).toInt = 0 := by decide
  have e128 : (128 : Int32).toInt = 128 := by decide
  apply c17_in
  refine ⟨fun z => ?_, fun z => ⟨fun a => ?_, fun a => ⟨fun b => ⟨fun c => ⟨?_, ?_⟩, fun c => ?_⟩, fun b => ?_⟩⟩⟩
  · rw [if_neg (fun q => q.1 z)] at h; exact h
  · rw [i32_lt, e0] at a; rw [if_neg (fun q => by have := q.2.1; omega)] at h; exact h
  · rw [i32_lt, e0] at a; rw [i32_lt, e128] at c; exact ⟨by omega, c⟩
  · rw [i32_lt, e0] at a
    rw [i32_lt, (i4 z).2.1] at b
    have ki := ix_int (i := i) (by omega)
    rw [if_pos ⟨z, by omega, b⟩] at h
    rw [(i4 z).2.2 _ (by omega)]; exact h
  · rw [i32_lt, (i4 z).2.1] at b; rw [i32_lt, e128] at c; omega
  · rw [i32_lt, (i4 z).2.1] at b
    rw [if_neg (fun q => b q.2.2)] at h; exact h

/-! the table of blocks; findFullMatch finds the first block that matches -/
theorem own_tn (x : Int32) (h : 0 ≤ x.toInt) : x.toBitVec.toNat = ix x := by
  have k := ix_int h
  have e : x.toInt = x.toBitVec.toInt := rfl
  have r := BitVec.toInt_eq_toNat_cond x.toBitVec
  have l := x.toBitVec.isLt
  split at r <;> omega
theorem own_ws (A S : Int32) (hA : 0 ≤ A.toInt ∧ A.toInt ≤ 65535) (hS : 0 ≤ S.toInt ∧ S.toInt ≤ 65535) : (A + S * 65536) &&& 65535 = A ∧ Jvm.Free.XT.ushr (A + S * 65536) 16 = S := by
  have kA := ix_int hA.1
  have kS := ix_int hS.1
  have tA := own_tn A hA.1
  have tS := own_tn S hS.1
  have w : (A + S * 65536).toBitVec.toNat = ix A + ix S * 65536 := by
    have c : (65536 : Int32).toBitVec.toNat = 65536 := by decide
    rw [Int32.toBitVec_add, BitVec.toNat_add, Int32.toBitVec_mul, BitVec.toNat_mul, tA, tS, c]
    omega
  constructor
  · apply Int32.toBitVec_inj.mp
    apply BitVec.eq_of_toNat_eq
    have c : (65535 : Int32).toBitVec.toNat = 2 ^ 16 - 1 := by decide
    rw [Int32.toBitVec_and, BitVec.toNat_and, w, c, tA, Nat.and_two_pow_sub_one_eq_mod]
    omega
  · apply Int32.toBitVec_inj.mp
    apply BitVec.eq_of_toNat_eq
    rw [tS]
    have g : (Jvm.Free.XT.ushr (A + S * 65536) 16).toBitVec = (A + S * 65536).toBitVec >>> 16 := by
      unfold Jvm.Free.XT.ushr
      show ((A + S * 65536).toUInt32 >>> ((16 : Int32) &&& 31).toUInt32).toBitVec = _
      have e : ((16 : Int32) &&& 31).toUInt32.toBitVec % 32 = 16#32 := by decide
      rw [UInt32.toBitVec_shiftRight, e, BitVec.ushiftRight_eq']
      rfl
    rw [g, BitVec.toNat_ushiftRight, w, Nat.shiftRight_eq_div_pow]
    omega
/-- the sums of n bytes of NEW from p on -/
def own_fw (s : St) (p : Nat) : Nat → Int32 × Int32 × Int32
  | 0 => (0, 0, -2128831035)
  | n + 1 => (((own_fw s p n).1 + gI s 2 (p + n)) &&& 65535, ((own_fw s p n).2.1 + (((own_fw s p n).1 + gI s 2 (p + n)) &&& 65535)) &&& 65535, ((own_fw s p n).2.2 ^^^ gI s 2 (p + n)) * 16777619)
theorem own_fw_f {s : St} {b p : Nat} : ∀ n, (∀ j, j < n → gI s 1 (b + j) = gI s 2 (p + j)) → own_fw s p n = own_f s b n
  | 0, _ => rfl
  | n + 1, h => by simp only [own_fw, own_f, own_fw_f n fun j hj => h j (by omega), h n (by omega)]
theorem own_fw_r (s : St) (p : Nat) : ∀ n, (0 ≤ (own_fw s p n).1.toInt ∧ (own_fw s p n).1.toInt ≤ 65535) ∧ (0 ≤ (own_fw s p n).2.1.toInt ∧ (own_fw s p n).2.1.toInt ≤ 65535)
  | 0 => by simp [own_fw]
  | n + 1 => by
    have m := fun x => Jvm.Kit.i32_mask x 65535 (k := 16) (by decide) (by decide)
    simp only [own_fw]
    rw [m, m]
    omega
theorem own_fw_eq {s t : St} (h : ∀ j, gI t 2 j = gI s 2 j) (p : Nat) : ∀ n, own_fw t p n = own_fw s p n
  | 0 => rfl
  | n + 1 => by simp only [own_fw, own_fw_eq h p n, h]
def own_bu (a b : Int32) : Int32 := ((a ^^^ (b * 7)) ^^^ (Jvm.Free.XT.ushr b 6)) &&& 63
def own_bk (t : St) (k : Nat) : Nat := ix (own_bu (gI t 3 k &&& 65535) (Jvm.Free.XT.ushr (gI t 3 k) 16))
/-- v is the first full block from n on in bucket b (-1: there is none) -/
def own_ls (t : St) (O B bc b n : Nat) (v : Int32) : Prop := (v = -1 ∧ ∀ k, n ≤ k → k < bc → own_L O B k = B → own_bk t k ≠ b) ∨ (0 ≤ v.toInt ∧ n ≤ ix v ∧ ix v < bc ∧ own_L O B (ix v) = B ∧ own_bk t (ix v) = b ∧ ∀ k, n ≤ k → k < ix v → own_L O B k = B → own_bk t k ≠ b)
def own_Tb (t : St) (O B bc : Nat) (n : Nat) : Prop := (∀ b, b < 64 → own_ls t O B bc b n (gI t 5 b)) ∧ (∀ k, n ≤ k → k < bc → own_L O B k = B → own_ls t O B bc (own_bk t k) (k + 1) (gI t 6 k))
theorem own_ls_eq {s t : St} {O B bc b n : Nat} {v : Int32} (h : ∀ k, gI t 3 k = gI s 3 k) (l : own_ls s O B bc b n v) : own_ls t O B bc b n v := by
  unfold own_ls own_bk at *
  simp only [h]; exact l
theorem own_bk_64 (t : St) (k : Nat) : own_bk t k < 64 := by
  have := own_m63 ((gI t 3 k &&& 65535 ^^^ (Jvm.Free.XT.ushr (gI t 3 k) 16 * 7)) ^^^ (Jvm.Free.XT.ushr (Jvm.Free.XT.ushr (gI t 3 k) 16) 6))
  have l : (own_bu (gI t 3 k &&& 65535) (Jvm.Free.XT.ushr (gI t 3 k) 16)).toInt < (64 : Int) := this.2
  have z := ix_int this.1
  unfold own_bk
  unfold own_bu at *
  omega
theorem own_25c (s : St) {B O N bc : Nat} (K : own_K s B O N) (hb : (gI s 0 15).toInt = bc) (b64 : bc ≤ 64) (Q : St → Prop) (h : ∀ t, (∀ c i, c ≠ 5 → c ≠ 6 → gI t c i = gI s c i) → own_Tb t O B bc 0 → Q t) : calV PP 25 10 [.ref 0] s Q := by
  have down : ∀ (n : Nat) (k : Int32) (u : St), k.toInt + 1 = n → n ≤ bc → (∀ c i, c ≠ 5 → c ≠ 6 → gI u c i = gI s c i) → own_Tb u O B bc n → wpcV PP 25 cm25 10 35 [some (.ref 0), some (.int k), none, none] [] u Q := by
    intro n
    induction n with
    | zero =>
      intro k u hk hn hu tb
      exact c25_35 _ _ _ ⟨fun _ => h u hu tb, fun q => absurd (by rw [i32_lt]; simp; omega) q⟩
    | succ n ih =>
      intro k u hk hn hu tb
      have e : (k + -1).toInt = n - 1 := by rw [i32_add] <;> simp <;> omega
      have kk : ix k = n := by have := ix_int (i := k) (by omega); omega
      have ib : inb 64 k := ⟨by omega, by show _ < (64 : Int); omega⟩
      have Ku : own_K u B O N := by
        obtain ⟨h9, h11, h13, r⟩ := K
        exact ⟨by rw [hu 0 9 (by decide) (by decide)]; exact h9, by rw [hu 0 11 (by decide) (by decide)]; exact h11, by rw [hu 0 13 (by decide) (by decide)]; exact h13, r⟩
      obtain ⟨eL, _⟩ := own_lnL Ku k (by omega)
      rw [kk] at eL
      refine c25_35 _ _ _ ⟨fun q => absurd q (by rw [i32_lt]; simp; omega), fun _ => ⟨fun _ => own_22 u k (by omega) _ ⟨fun full => ⟨ib, ?_⟩, fun nf => ?_⟩, fun q => absurd (by rw [i32_lt]; simp; omega) q⟩⟩
      · rw [i32_eq, eL, Ku.1] at full
        have full : own_L O B n = B := by omega
        apply c24_in
        refine ⟨own_m63 _, ib, own_m63 _, ?_⟩
        rw [kk]
        have ebk : ix (own_bu (gI u 3 n &&& 65535) (Jvm.Free.XT.ushr (gI u 3 n) 16)) = own_bk u n := rfl
        unfold own_bu at ebk
        rw [ebk]
        have b6 := own_bk_64 u n
        generalize hv : sI (sI u 6 n (gI u 5 (own_bk u n))) 5 (own_bk u n) k = v
        have v3 : ∀ j, gI v 3 j = gI u 3 j := fun j => by rw [← hv]; simp [gI_sI]
        have vb : ∀ j, own_bk v j = own_bk u j := fun j => by unfold own_bk; rw [v3]
        have v5 : ∀ j, gI v 5 j = if j = own_bk u n then k else gI u 5 j := fun j => by rw [← hv]; simp [gI_sI]
        have v6 : ∀ j, gI v 6 j = if j = n then gI u 5 (own_bk u n) else gI u 6 j := fun j => by rw [← hv]; simp [gI_sI]
        refine c25_96 _ _ _ (ih _ v (by omega) (by omega) (fun c i h5 h6 => ?_) ⟨fun b b' => ?_, fun j hj jb jl => ?_⟩)
        · rw [← hv, gI_sI, if_neg (fun z => h5 z.1), gI_sI, if_neg (fun z => h6 z.1)]; exact hu c i h5 h6
        · rw [v5]
          by_cases z : b = own_bk u n
          · rw [if_pos z]
            refine .inr ⟨by omega, by omega, by omega, by rw [kk]; exact full, by rw [kk, vb, z], fun j a c => by omega⟩
          · rw [if_neg z]
            apply own_ls_eq v3
            rcases tb.1 b b' with ⟨q1, q2⟩ | ⟨q1, q2, q3, q4, q5, q6⟩
            · refine .inl ⟨q1, fun j a c d => ?_⟩
              by_cases y : j = n
              · rw [y]; exact fun w => z w.symm
              · exact q2 j (by omega) c d
            · refine .inr ⟨q1, by omega, q3, q4, q5, fun j a c d => ?_⟩
              by_cases y : j = n
              · rw [y]; exact fun w => z w.symm
              · exact q6 j (by omega) c d
        · rw [v6, vb]
          apply own_ls_eq v3
          by_cases y : j = n
          · rw [if_pos y, y]; exact tb.1 _ b6
          · rw [if_neg y]; exact tb.2 j (by omega) jb jl
      · have nf : own_L O B n ≠ B := fun q => nf (by rw [i32_eq, eL, Ku.1, q])
        refine c25_96 _ _ _ (ih _ u (by omega) (by omega) hu ⟨fun b b' => ?_, fun j hj jb jl => ?_⟩)
        · rcases tb.1 b b' with ⟨q1, q2⟩ | ⟨q1, q2, q3, q4, q5, q6⟩
          · refine .inl ⟨q1, fun j a c d => ?_⟩
            by_cases y : j = n
            · rw [y] at d; exact absurd d nf
            · exact q2 j (by omega) c d
          · refine .inr ⟨q1, by omega, q3, q4, q5, fun j a c d => ?_⟩
            by_cases y : j = n
            · rw [y] at d; exact absurd d nf
            · exact q6 j (by omega) c d
        · by_cases y : j = n
          · rw [y] at jl; exact absurd jl nf
          · exact tb.2 j (by omega) jb jl
  apply c25_in
  refine loop_up (F := fun i => ∀ u, (∀ c i, c ≠ 5 → c ≠ 6 → gI u c i = gI s c i) → (∀ j, j < ix i → gI u 5 j = -1) → wpcV PP 25 cm25 10 2 [some (.ref 0), some (.int i), none, none] [] u Q) 64 (by decide) (fun i i0 i1 e ih u hu h5 => ?_) (fun i hi u hu h5 => ?_) 0 (by decide) (by decide) s (fun _ _ _ _ => rfl) (fun j hj => absurd hj (by simp [ix]))
  · have ki := ix_int i0
    have kj := ix_int (i := i + 1) (by omega)
    refine c25_2 _ _ _ ⟨fun _ => ⟨⟨i0, i1⟩, ⟨i0, i1⟩, ih _ (fun c j a b => ?_) (fun j hj => ?_)⟩, fun q => absurd (by rw [i32_lt]; exact i1) q⟩
    · rw [gI_sI, if_neg (fun z => b z.1), gI_sI, if_neg (fun z => a z.1)]; exact hu c j a b
    · rw [gI_sI, if_neg (by omega), gI_sI]
      by_cases z : j = ix i
      · rw [if_pos ⟨rfl, z⟩]
      · rw [if_neg (fun y => z y.2)]; exact h5 j (by omega)
  · have e64 : ix i = 64 := by have := ix_int (i := i) (by omega); omega
    rw [e64] at h5
    refine c25_2 _ _ _ ⟨fun q => absurd q (by rw [i32_lt, hi]; decide), fun _ => ?_⟩
    have e1 : (gI u 0 15 - 1).toInt = bc - 1 := by rw [hu 0 15 (by decide) (by decide)]; rw [i32_sub] <;> rw [hb] <;> simp <;> omega
    exact down bc _ u (by omega) (Nat.le_refl _) hu ⟨fun b b' => .inl ⟨h5 b b', fun k a c => by omega⟩, fun k a c => by omega⟩
/-- the sums of the blocks stand in the arrays -/
def own_Sm (t : St) (B bc O : Nat) : Prop := ∀ k, k < bc → gI t 3 k = (own_f t (k * B) (own_L O B k)).1 + (own_f t (k * B) (own_L O B k)).2.1 * 65536 ∧ gI t 4 k = (own_f t (k * B) (own_L O B k)).2.2
theorem own_5c (s : St) {B O N : Nat} (I : own_Iv s B O N) (z : gI s 0 14 = 0) (Q : Int32 → St → Prop) (h : ∀ (v : Int32) (t : St), v.toInt = ((O + B - 1) / B : Nat) → own_Iv t B O N → (∀ c j, c ≠ 3 → c ≠ 4 → c ≠ 5 → c ≠ 6 → (c = 0 → j ≠ 14 ∧ j ≠ 15) → gI t c j = gI s c j) → gI t 0 14 = 1 → gI t 0 15 = v → own_Tb t O B ((O + B - 1) / B) 0 → own_Sm t B ((O + B - 1) / B) O → Q v t) : calI PP 5 10 [.ref 0] s Q := by
  have I' := I
  obtain ⟨K, i2, i3, i4⟩ := I'
  have b64 := own_b64 K.2.2.2.2.2.1 K.2.2.2.1
  have K' := K
  obtain ⟨h9, h11, h13, B2, B16, O1, N1⟩ := K'
  have d20 : gI s 0 20 = 0 := Classical.byContradiction fun q => (i3 q).1 z
  have d26 : gI s 0 26 = 0 := Classical.byContradiction fun q => (i4 q).1 d20
  generalize hbc : (gI s 0 11 + gI s 0 9 - 1) / gI s 0 9 = bc
  have one : (1 : Int32).toInt = 1 := by decide
  have e1 : (gI s 0 11 + gI s 0 9).toInt = (O + B : Nat) := by rw [i32_add] <;> rw [h11, h9] <;> omega
  have e2 : (gI s 0 11 + gI s 0 9 - 1).toInt = (O + B - 1 : Nat) := by rw [i32_sub] <;> rw [e1, one] <;> omega
  have e3 : bc.toInt = ((O + B - 1) / B : Nat) := by
    rw [← hbc, Jvm.Kit.i32_div (by omega), e2, h9, Int.tdiv_eq_ediv_of_nonneg (by omega)]; rfl
  have e4 : 0 ≤ bc.toInt := by rw [e3]; exact Int.natCast_nonneg _
  have e5 : bc.toInt ≤ 64 := by rw [e3]; exact Int.ofNat_le.mpr b64
  apply c5_in
  refine ⟨fun _ => ⟨fun q => by rw [q] at h9; simp at h9; omega, fun q => absurd q (by rw [hbc, i32_lt]; simp; omega), fun _ => c5_44 _ _ ?_⟩, fun q => absurd z q⟩
  rw [hbc]
  refine loop_up (F := fun i => ∀ u, (∀ c j, c ≠ 3 → c ≠ 4 → (c = 0 → j ≠ 15) → gI u c j = gI s c j) → gI u 0 15 = bc → own_Sm u B (ix i) O → wpcI PP 5 cm5 10 46 [some (.ref 0), some (.int i)] [] u Q) bc.toInt (by omega) (fun i h0 h1 ei ih u hu hb hk => ?_) (fun i hi u hu hb hk => ?_) 0 (by decide) (by simp; omega) _ (fun c j _ _ hc => by rw [gI_sI, if_neg (fun q => hc q.1 q.2)]) (by simp [gI_sI]) (fun k hk => absurd hk (by simp [ix]))
  · have ki := ix_int h0
    have kj := ix_int (i := i + 1) (by omega)
    have ej : ix (i + 1) = ix i + 1 := by omega
    have u9 := hu 0 9 (by decide) (by decide) (by decide)
    have u11 := hu 0 11 (by decide) (by decide) (by decide)
    have Ku : own_K u B O N := ⟨by rw [u9]; exact h9, by rw [u11]; exact h11, by rw [hu 0 13 (by decide) (by decide) (by decide)]; exact h13, B2, B16, O1, N1⟩
    obtain ⟨eL, _, eI, _⟩ := own_lnL Ku i (by omega)
    have iL : ix (own_ln u i) = own_L O B (ix i) := by have := ix_int (i := own_ln u i) (by omega); omega
    refine c5_46 _ _ _ ⟨fun _ => own_23 u i (by omega) (by rw [u9]; omega) (by rw [u11]; omega) _ (ih _ (fun c j h3 h4 hc => ?_) ?_ ?_), fun q => absurd (by rw [hb, i32_lt]; omega) q⟩
    · rw [gI_sI, if_neg (fun q => h4 q.1), gI_sI, if_neg (fun q => h3 q.1)]; exact hu c j h3 h4 hc
    · rw [gI_sI, gI_sI, if_neg (by omega), if_neg (by omega)]; exact hb
    · intro k k1
      rw [ej] at k1
      have f1 : ∀ j, gI (sI (sI u 3 (ix i) (own_wk u i)) 4 (ix i) (own_st u i)) 1 j = gI u 1 j := fun j => by simp [gI_sI]
      rw [own_f_eq f1]
      by_cases y : k = ix i
      · subst y
        unfold own_wk own_st
        rw [eI, iL]
        simp [gI_sI]
      · have := hk k (by omega)
        simp [gI_sI, y]; exact this
  · have en : ix i = (O + B - 1) / B := by have := ix_int (i := i) (by omega); omega
    rw [en] at hk
    have Ku : own_K u B O N := ⟨by rw [hu 0 9 (by decide) (by decide) (by decide)]; exact h9, by rw [hu 0 11 (by decide) (by decide) (by decide)]; exact h11, by rw [hu 0 13 (by decide) (by decide) (by decide)]; exact h13, B2, B16, O1, N1⟩
    refine c5_46 _ _ _ ⟨fun q => absurd q (by rw [hb, i32_lt]; omega), fun _ => ?_⟩
    refine own_25c u (bc := (O + B - 1) / B) Ku (by rw [hb]; exact e3) b64 _ fun t ht tb => ?_
    have tc : ∀ c j, c ≠ 3 → c ≠ 4 → c ≠ 5 → c ≠ 6 → (c = 0 → j ≠ 14 ∧ j ≠ 15) → gI (sI t 0 14 1) c j = gI s c j := fun c j a b d e f => by
      rw [gI_sI, if_neg (fun q => (f q.1).1 q.2), ht c j d e]; exact hu c j a b fun q => (f q).2
    rw [ht 0 15 (by decide) (by decide), hb]
    have x15 : gI (sI t 0 14 1) 0 15 = bc := by rw [gI_sI, if_neg (by decide), ht 0 15 (by decide) (by decide), hb]
    have xa : ∀ c j, c ≠ 0 → gI (sI t 0 14 1) c j = gI t c j := fun c j hc => by rw [gI_sI, if_neg (fun q => hc q.1)]
    refine h bc _ e3 ⟨⟨by rw [tc 0 9 (by decide) (by decide) (by decide) (by decide) (by decide)]; exact h9, by rw [tc 0 11 (by decide) (by decide) (by decide) (by decide) (by decide)]; exact h11, by rw [tc 0 13 (by decide) (by decide) (by decide) (by decide) (by decide)]; exact h13, B2, B16, O1, N1⟩, fun _ => by rw [x15]; exact e3, fun q => absurd (by rw [tc 0 20 (by decide) (by decide) (by decide) (by decide) (by decide)]; exact d20) q, fun q => absurd (by rw [tc 0 26 (by decide) (by decide) (by decide) (by decide) (by decide)]; exact d26) q⟩ tc (by simp [gI_sI]) x15 ⟨fun b b' => ?_, fun k a b c => ?_⟩ (fun k k1 => ?_)
    · rw [xa 5 _ (by decide)]; exact own_ls_eq (fun j => xa 3 j (by decide)) (tb.1 b b')
    · rw [xa 6 _ (by decide)]
      have : own_bk (sI t 0 14 1) k = own_bk t k := by unfold own_bk; rw [xa 3 _ (by decide)]
      rw [this]; exact own_ls_eq (fun j => xa 3 j (by decide)) (tb.2 k a b c)
    · rw [xa 3 _ (by decide), xa 4 _ (by decide), ht 3 _ (by decide) (by decide), ht 4 _ (by decide) (by decide)]
      have f1 : ∀ j, gI (sI t 0 14 1) 1 j = gI u 1 j := fun j => by rw [xa 1 j (by decide), ht 1 j (by decide) (by decide)]
      rw [own_f_eq f1]; exact hk k k1
theorem own_27c (s : St) {B O N : Nat} (K : own_K s B O N) (p l : Int32) (hp : 0 ≤ p.toInt ∧ p.toInt + l.toInt ≤ N) (hl : 0 ≤ l.toInt ∧ l.toInt ≤ 16) (Q : Int32 → St → Prop) (h : Q (own_fw s (ix p) (ix l)).2.2 s) : calI PP 27 10 [.ref 0, .int p, .int l] s Q := by
  obtain ⟨h9, h11, h13, B2, B16, O1, N1⟩ := K
  have kp := ix_int hp.1
  have kl := ix_int hl.1
  apply c27_in
  refine loop_up (F := fun i => wpcI PP 27 cm27 10 6 [some (.ref 0), some (.int p), some (.int l), some (.int (own_fw s (ix p) (ix i)).2.2), some (.int i), none] [] s Q) l.toInt (by omega) (fun i i0 i1 e ih => ?_) (fun i hi => ?_) 0 (by decide) (by simpa using hl.1)
  · have ki := ix_int i0
    have kj := ix_int (i := i + 1) (by omega)
    have ej : ix (i + 1) = ix i + 1 := by omega
    have ep : (p + i).toInt = p.toInt + i.toInt := by rw [i32_add] <;> omega
    have ip : ix (p + i) = ix p + ix i := by have := ix_int (i := p + i) (by omega); omega
    rw [ej, own_fw] at ih
    refine c27_6 _ _ _ _ _ _ ⟨fun _ => ⟨fun _ => ⟨fun q => absurd q (by rw [i32_lt, ep]; simp; omega), fun _ => ⟨fun r => ⟨⟨by omega, by show _ < (128 : Int); omega⟩, ?_⟩, fun q => absurd (by rw [i32_lt, ep, h13]; omega) q⟩⟩, fun q => absurd (by rw [i32_lt]; simp; omega) q⟩, fun q => absurd (by rw [i32_lt]; exact i1) q⟩
    rw [ip]; exact ih
  · have : ix i = ix l := by have := ix_int (i := i) (by omega); omega
    rw [this]
    exact c27_6 _ _ _ _ _ _ ⟨fun q => absurd q (by rw [i32_lt, hi]; omega), fun _ => h⟩
/-- windowSums, exactly -/
theorem own_26c (s : St) {B O N : Nat} (K : own_K s B O N) (p l : Int32) (hp : 0 ≤ p.toInt ∧ p.toInt + l.toInt ≤ N) (hl : 0 ≤ l.toInt ∧ l.toInt ≤ 16) (Q : St → Prop) (h : ∀ t, own_w2 s t → gI t 0 29 = (own_fw s (ix p) (ix l)).1 → gI t 0 30 = (own_fw s (ix p) (ix l)).2.1 → Q t) : calV PP 26 10 [.ref 0, .int p, .int l] s Q := by
  obtain ⟨h9, h11, h13, B2, B16, O1, N1⟩ := K
  have kp := ix_int hp.1
  have kl := ix_int hl.1
  apply c26_in
  refine loop_up (F := fun i => wpcV PP 26 cm26 10 8 [some (.ref 0), some (.int p), some (.int l), some (.int (own_fw s (ix p) (ix i)).1), some (.int (own_fw s (ix p) (ix i)).2.1), some (.int i), none] [] s Q) l.toInt (by omega) (fun i i0 i1 e ih => ?_) (fun i hi => ?_) 0 (by decide) (by simpa using hl.1)
  · have ki := ix_int i0
    have kj := ix_int (i := i + 1) (by omega)
    have ej : ix (i + 1) = ix i + 1 := by omega
    have ep : (p + i).toInt = p.toInt + i.toInt := by rw [i32_add] <;> omega
    have ip : ix (p + i) = ix p + ix i := by have := ix_int (i := p + i) (by omega); omega
    rw [ej, own_fw] at ih
    refine c26_8 _ _ _ _ _ _ _ ⟨fun _ => ⟨fun _ => ⟨fun q => absurd q (by rw [i32_lt, ep]; simp; omega), fun _ => ⟨fun r => ⟨⟨by omega, by show _ < (128 : Int); omega⟩, ?_⟩, fun q => absurd (by rw [i32_lt, ep, h13]; omega) q⟩⟩, fun q => absurd (by rw [i32_lt]; simp; omega) q⟩, fun q => absurd (by rw [i32_lt]; exact i1) q⟩
    rw [ip]; exact ih
  · have : ix i = ix l := by have := ix_int (i := i) (by omega); omega
    rw [this]
    refine c26_8 _ _ _ _ _ _ _ ⟨fun q => absurd q (by rw [i32_lt, hi]; omega), fun _ => c26_72 _ _ _ _ (h _ (fun c j hc => ?_) (by simp [gI_sI]) (by simp [gI_sI]))⟩
    rw [gI_sI, if_neg (fun z => (hc z.1).2 z.2), gI_sI, if_neg (fun z => (hc z.1).1 z.2)]
/-- findFullMatch: the first block whose bytes are those of the window -/
theorem own_30c (s : St) {B O N : Nat} (K : own_K s B O N) (tb : own_Tb s O B ((O + B - 1) / B) 0) (sm : own_Sm s B ((O + B - 1) / B) O) (p : Int32) (hp : 0 ≤ p.toInt ∧ p.toInt + B ≤ N) (hA : gI s 0 29 = (own_fw s (ix p) B).1) (hS : gI s 0 30 = (own_fw s (ix p) B).2.1) (Q : Int32 → St → Prop) (h0 : (∀ k, ¬ own_sb s O N (k * B) (ix p) B) → Q (-1) s) (h1 : ∀ v : Int32, 0 ≤ v.toInt → own_sb s O N (ix v * B) (ix p) B → (∀ k, k < ix v → ¬ own_sb s O N (k * B) (ix p) B) → Q v s) : calI PP 30 10 [.ref 0, .int p] s Q := by
  have b64 := own_b64 K.2.2.2.2.2.1 K.2.2.2.1
  have K' := K
  obtain ⟨h9, h11, h13, B2, B16, O1, N1⟩ := K'
  have kp := ix_int hp.1
  have i9 : ix (gI s 0 9) = B := by have := ix_int (i := gI s 0 9) (by omega); omega
  obtain ⟨rA, rS⟩ := own_fw_r s (ix p) B
  obtain ⟨w1, w2⟩ := own_ws _ _ rA rS
  -- a block of the same bytes has the same sums, and stands in the window's bucket
  have mt : ∀ k, own_sb s O N (k * B) (ix p) B → k < (O + B - 1) / B ∧ own_L O B k = B ∧ gI s 3 k = (own_fw s (ix p) B).1 + (own_fw s (ix p) B).2.1 * 65536 ∧ gI s 4 k = (own_fw s (ix p) B).2.2 ∧ own_bk s k = ix (own_bu (own_fw s (ix p) B).1 (own_fw s (ix p) B).2.1) := by
    intro k sb
    obtain ⟨l1, l2, l3⟩ := own_sb_L (by omega) sb
    have e := own_fw_f (s := s) (b := k * B) (p := ix p) B fun j hj => (sb j hj).2.2
    obtain ⟨m1, m2⟩ := sm k l2
    rw [l1, ← e] at m1 m2
    refine ⟨l2, l1, m1, m2, ?_⟩
    unfold own_bk
    rw [m1, w1, w2]
  apply c30_in
  apply c24_in
  rw [hA, hS]
  have eb : own_bu (own_fw s (ix p) B).1 (own_fw s (ix p) B).2.1 = (((own_fw s (ix p) B).1 ^^^ ((own_fw s (ix p) B).2.1 * 7)) ^^^ (Jvm.Free.XT.ushr (own_fw s (ix p) B).2.1 6)) &&& 63 := rfl
  rw [← eb]
  have ib : inb 64 (own_bu (own_fw s (ix p) B).1 (own_fw s (ix p) B).2.1) := own_m63 _
  have kb := ix_int ib.1
  have lb : (own_bu (own_fw s (ix p) B).1 (own_fw s (ix p) B).2.1).toInt < (64 : Int) := ib.2
  refine ⟨ib, ?_⟩
  generalize own_bu (own_fw s (ix p) B).1 (own_fw s (ix p) B).2.1 = bu at *
  have start := tb.1 (ix bu) (by omega)
  generalize hwk : (own_fw s (ix p) B).1 + (own_fw s (ix p) B).2.1 * 65536 = wk at *
  refine loop_up (F := fun i => ∀ (m : Nat) (x3 x4 x5 : Int32), i.toInt ≤ m → own_ls s O B ((O + B - 1) / B) (ix bu) m x3 → (∀ k, k < m → ¬ own_sb s O N (k * B) (ix p) B) → (x4 ≠ 0 → x5 = (own_fw s (ix p) B).2.2) → wpcI PP 30 cm30 10 40 [some (.ref 0), some (.int p), some (.int wk), some (.int x3), some (.int x4), some (.int x5), some (.int i)] [] s Q) 64 (by decide) (fun i i0 i1 e ih m x3 x4 x5 im ls no hx => ?_) (fun i hi m x3 x4 x5 im ls no hx => ?_) 0 (by decide) (by decide) 0 _ 0 0 (by decide) start (fun k hk => absurd hk (by omega)) (fun q => absurd rfl q)
  · rcases ls with ⟨q1, q2⟩ | ⟨q1, q2, q3, q4, q5, q6⟩
    · refine c30_40 _ _ _ _ _ _ _ _ ⟨fun _ => ⟨fun _ => h0 fun k sb => ?_, fun z => absurd (by rw [q1]; decide) z⟩, fun q => absurd (by rw [i32_lt]; exact i1) q⟩
      obtain ⟨m1, m2, _, _, m5⟩ := mt k sb
      by_cases z : k < m
      · exact no k z sb
      · exact q2 k (by omega) m1 m2 m5
    · have k3 := ix_int q1
      have ib3 : inb 64 x3 := ⟨q1, by show _ < (64 : Int); omega⟩
      have no' : ∀ k, k < ix x3 → ¬ own_sb s O N (k * B) (ix p) B := fun k hk sb => by
        obtain ⟨m1, m2, _, _, m5⟩ := mt k sb
        by_cases z : k < m
        · exact no k z sb
        · exact q6 k (by omega) hk m2 m5
      have nx : ∀ y4 y5, ¬ own_sb s O N (ix x3 * B) (ix p) B → (y4 ≠ 0 → y5 = (own_fw s (ix p) B).2.2) → wpcI PP 30 cm30 10 112 [some (.ref 0), some (.int p), some (.int wk), some (.int x3), some (.int y4), some (.int y5), some (.int i)] [] s Q := fun y4 y5 nsb hy => by
        apply c30_112
        have := tb.2 (ix x3) (by omega) q3 q4
        rw [q5] at this
        refine ⟨ib3, ih (ix x3 + 1) _ y4 y5 (by omega) this (fun k hk => ?_) hy⟩
        by_cases z : k = ix x3
        · rw [z]; exact nsb
        · exact no' k (by omega)
      have mid : ∀ y4 : Int32, y4 ≠ 0 → wpcI PP 30 cm30 10 86 [some (.ref 0), some (.int p), some (.int wk), some (.int x3), some (.int y4), some (.int (own_fw s (ix p) B).2.2), some (.int i)] [] s Q := fun y4 hy => by
        apply c30_86
        refine ⟨ib3, fun _ => own_29 s K x3 p (gI s 0 9) (by omega) (by omega) (by omega) _ (fun w => ⟨fun _ => nx _ _ (by rw [i9] at w; exact w) (fun _ => rfl), fun z => absurd rfl z⟩) (fun w => ⟨fun z => absurd z (by decide), fun _ => h1 x3 q1 (by rw [i9] at w; exact w) no'⟩), fun z => nx _ _ (fun sb => z (mt _ sb).2.2.2.1) (fun _ => rfl)⟩
      refine c30_40 _ _ _ _ _ _ _ _ ⟨fun _ => ⟨fun z => absurd z (by rw [i32_lt]; simp; omega), fun _ => ⟨fun _ => ⟨ib3, fun _ => ⟨fun _ => own_27c s K p (gI s 0 9) (by omega) (by omega) _ (by rw [i9]; exact mid 1 (by decide)), fun y => ?_⟩, fun z => nx _ _ (fun sb => z (mt _ sb).2.2.1) hx⟩, fun z => absurd (by rw [i32_lt]; simp; omega) z⟩⟩, fun q => absurd (by rw [i32_lt]; exact i1) q⟩
      rw [hx y]; exact mid x4 y
  · refine c30_40 _ _ _ _ _ _ _ _ ⟨fun q => absurd q (by rw [i32_lt, hi]; decide), fun _ => h0 fun k sb => ?_⟩
    obtain ⟨m1, m2, _⟩ := mt k sb
    exact no k (by omega) sb

theorem own_fw2 (s : St) (p : Nat) (x y : Int32) (ex : gI s 2 p = x) (ey : gI s 2 (p + 1) = y) (hx : 0 ≤ x.toInt ∧ x.toInt ≤ 255) (hy : 0 ≤ y.toInt ∧ y.toInt ≤ 255) : (own_fw s p 2).1 = x + y ∧ (own_fw s p 2).2.1 = x + (x + y) := by
  have a1 : (x + y).toInt = x.toInt + y.toInt := i32_add (by omega) (by omega)
  have a2 : (x + (x + y)).toInt = x.toInt + (x + y).toInt := i32_add (by omega) (by omega)
  have z : ∀ w : Int32, 0 + w = w := Int32.zero_add
  simp only [own_fw, Nat.add_zero, ex, ey, z]
  rw [own_m16 (x := x) (by omega), own_m16 (x := x) (by omega), own_m16 (x := x + y) (by omega), own_m16 (x := x + (x + y)) (by omega)]
  exact ⟨rfl, rfl⟩
/-- rollWindow with blocks of two bytes -/
theorem own_28c (s : St) {O N : Nat} (K : own_K s 2 O N) (p : Int32) (x y z : Int32) (hp : 0 ≤ p.toInt ∧ p.toInt + 2 < N) (ex : gI s 2 (ix p) = x) (ey : gI s 2 (ix p + 1) = y) (ez : gI s 2 (ix p + 2) = z) (hx : 0 ≤ x.toInt ∧ x.toInt ≤ 255) (hy : 0 ≤ y.toInt ∧ y.toInt ≤ 255) (hz : 0 ≤ z.toInt ∧ z.toInt ≤ 255) (hA : gI s 0 29 = (own_fw s (ix p) 2).1) (hS : gI s 0 30 = (own_fw s (ix p) 2).2.1) (Q : St → Prop) (h : ∀ t, own_w2 s t → gI t 0 29 = (own_fw s (ix p + 1) 2).1 → gI t 0 30 = (own_fw s (ix p + 1) 2).2.1 → Q t) : calV PP 28 10 [.ref 0, .int p] s Q := by
  have kp := ix_int hp.1
  obtain ⟨f1, f2⟩ := own_fw2 s (ix p) x y ex ey hx hy
  obtain ⟨g1, g2⟩ := own_fw2 s (ix p + 1) y z ey ez hy hz
  rw [f1] at hA
  rw [f2] at hS
  rw [g1, g2] at h
  obtain ⟨h9, h11, h13, B2, B16, O1, N1⟩ := K
  have two : (2 : Int32).toInt = 2 := by decide
  have h9' : gI s 0 9 = 2 := by rw [i32_eq, h9]; rfl
  have ep : (p + 2).toInt = p.toInt + 2 := by rw [i32_add] <;> rw [two] <;> omega
  have ip : ix (p + 2) = ix p + 2 := by have := ix_int (i := p + 2) (by omega); omega
  have a1 : (x + y).toInt = x.toInt + y.toInt := i32_add (by omega) (by omega)
  have a2 : (x + (x + y)).toInt = x.toInt + (x + y).toInt := i32_add (by omega) (by omega)
  have a3 : (x + y - x).toInt = y.toInt := by rw [i32_sub] <;> omega
  have a4 : (x + y - x + z).toInt = y.toInt + z.toInt := by rw [i32_add] <;> omega
  have a5 : (y + z).toInt = y.toInt + z.toInt := i32_add (by omega) (by omega)
  have r1 : (x + y - x + z) &&& 65535 = y + z := by rw [own_m16 (by omega), i32_eq, a4, a5]
  have b1 : (2 * x).toInt = 2 * x.toInt := by rw [i32_mul] <;> rw [two] <;> omega
  have b2 : (x + (x + y) - 2 * x).toInt = y.toInt := by rw [i32_sub] <;> omega
  have b3 : (x + (x + y) - 2 * x + (y + z)).toInt = y.toInt + (y + z).toInt := by rw [i32_add] <;> omega
  have b4 : (y + (y + z)).toInt = y.toInt + (y + z).toInt := i32_add (by omega) (by omega)
  have r2 : (x + (x + y) - 2 * x + (y + z)) &&& 65535 = y + (y + z) := by rw [own_m16 (by omega), i32_eq, b3, b4]
  apply c28_in
  refine ⟨fun q => absurd q (by rw [i32_lt]; simp; omega), fun _ => ⟨fun _ => ⟨⟨hp.1, by show _ < (128 : Int); omega⟩, ⟨by rw [h9']; omega, by rw [h9']; show _ < (128 : Int); omega⟩, ?_⟩, fun q => absurd (by rw [i32_lt, h9', ep, h13]; omega) q⟩⟩
  rw [h9', ip, ex, ez, hA, hS, r1, r2]
  refine h _ (fun c j hc => ?_) (by simp [gI_sI]) (by simp [gI_sI])
  rw [gI_sI, if_neg (fun z => (hc z.1).2 z.2), gI_sI, if_neg (fun z => (hc z.1).1 z.2)]
/-- the five bytes c d e a b against the blocks a b, c d -/
theorem own_scan (s : St) (a b c d e : Int32) (K : own_K s 2 4 5) (hb : (gI s 0 15).toInt = 2) (tb : own_Tb s 4 2 2 0) (sm : own_Sm s 2 2 4) (h23 : gI s 0 23 = 0) (h25 : gI s 0 25 = 0) (ha' : 0 ≤ a.toInt ∧ a.toInt ≤ 255) (hb' : 0 ≤ b.toInt ∧ b.toInt ≤ 255) (he' : 0 ≤ e.toInt ∧ e.toInt ≤ 255) (o0 : gI s 1 0 = a) (o1 : gI s 1 1 = b) (o2 : gI s 1 2 = c) (o3 : gI s 1 3 = d) (n0 : gI s 2 0 = c) (n1 : gI s 2 1 = d) (n2 : gI s 2 2 = e) (n3 : gI s 2 3 = a) (n4 : gI s 2 4 = b) (Q : St → Prop) (h : ∀ t (k1 k2 : Int32), own_sc s t → own_DL 4 2 t 3 0 5 → k1 = (if a = c then (if b = d then 0 else 1) else 1) → k2 = (if e = a then (if a = b then 0 else (if e = c then (if a = d then 1 else (-1)) else (-1))) else (if e = c then (if a = d then 1 else (-1)) else (-1))) → gI t 7 0 = 1 → gI t 8 0 = k1 → gI t 7 1 = (if k2 < 0 then 2 else 1) → gI t 8 1 = (if k2 < 0 then 1 else k2) → gI t 7 2 = (if k2 < 0 then 1 else 2) → gI t 8 2 = (if k2 < 0 then 0 else 1) → Q t) : calV PP 34 10 [.ref 0] s Q := by
  have bc2 : (4 + 2 - 1) / 2 = 2 := by decide
  have L0 : own_L 4 2 0 = 2 := by decide
  have L1 : own_L 4 2 1 = 2 := by decide
  have two : (2 : Int32).toInt = 2 := by decide
  have g9 : ∀ u, own_K u 2 4 5 → gI u 0 9 = 2 ∧ gI u 0 13 = 5 := fun u Ku => ⟨by rw [i32_eq, Ku.1]; rfl, by rw [i32_eq, Ku.2.2.1]; rfl⟩
  have x2' : ix (2 : Int32) = 2 := by decide
  -- which blocks match at p
  have mt : ∀ (t : St) (p : Nat), own_sc s t → p + 2 ≤ 5 → (own_sb t 4 5 (0 * 2) p 2 ↔ (a = gI s 2 p ∧ b = gI s 2 (p + 1))) ∧ (own_sb t 4 5 (1 * 2) p 2 ↔ (c = gI s 2 p ∧ d = gI s 2 (p + 1))) ∧ (∀ k, 2 ≤ k → ¬ own_sb t 4 5 (k * 2) p 2) := by
    intro t p ht hp
    have t1 : ∀ j, gI t 1 j = gI s 1 j := fun j => ht 1 j (by decide) (by decide) (by decide) (by omega)
    have t2 : ∀ j, gI t 2 j = gI s 2 j := fun j => ht 2 j (by decide) (by decide) (by decide) (by omega)
    refine ⟨⟨fun q => ?_, fun q j hj => ?_⟩, ⟨fun q => ?_, fun q j hj => ?_⟩, fun k hk q => ?_⟩
    · have q0 := (q 0 (by decide)).2.2
      have q1 := (q 1 (by decide)).2.2
      rw [t1, t2] at q0 q1
      simp only [Nat.zero_mul, Nat.add_zero, Nat.zero_add] at q0 q1
      rw [o0] at q0; rw [o1] at q1
      exact ⟨q0, q1⟩
    · rcases (show j = 0 ∨ j = 1 by omega) with r | r
      · subst r; exact ⟨by omega, by omega, by rw [t1, t2]; simp only [Nat.zero_mul, Nat.add_zero]; rw [o0]; exact q.1⟩
      · subst r; exact ⟨by omega, by omega, by rw [t1, t2]; simp only [Nat.zero_mul, Nat.zero_add]; rw [o1]; exact q.2⟩
    · have q0 := (q 0 (by decide)).2.2
      have q1 := (q 1 (by decide)).2.2
      rw [t1, t2] at q0 q1
      simp only [Nat.one_mul, Nat.add_zero] at q0 q1
      rw [o2] at q0; rw [o3] at q1
      exact ⟨q0, q1⟩
    · rcases (show j = 0 ∨ j = 1 by omega) with r | r
      · subst r; exact ⟨by omega, by omega, by rw [t1, t2]; simp only [Nat.one_mul, Nat.add_zero]; rw [o2]; exact q.1⟩
      · subst r; exact ⟨by omega, by omega, by rw [t1, t2]; simp only [Nat.one_mul]; rw [o3]; exact q.2⟩
    · have := (q 0 (by decide)).1; omega
  have own_mv : ∀ (t : St), own_sc s t → own_K t 2 4 5 ∧ own_Tb t 4 2 ((4 + 2 - 1) / 2) 0 ∧ own_Sm t 2 ((4 + 2 - 1) / 2) 4 := fun t ht => by
    have t3 : ∀ j, gI t 3 j = gI s 3 j := fun j => ht 3 j (by decide) (by decide) (by decide) (by omega)
    rw [bc2]
    refine ⟨own_sc_K ht K, ⟨fun b b' => by rw [ht 5 b (by decide) (by decide) (by decide) (by omega)]; exact own_ls_eq t3 (tb.1 b b'), fun k x y z => ?_⟩, fun k hk => ?_⟩
    · have : own_bk t k = own_bk s k := by unfold own_bk; rw [t3]
      rw [ht 6 k (by decide) (by decide) (by decide) (by omega), this]; exact own_ls_eq t3 (tb.2 k x y z)
    · rw [t3, ht 4 k (by decide) (by decide) (by decide) (by omega), own_f_eq (fun j => ht 1 j (by decide) (by decide) (by decide) (by omega))]; exact sm k hk
  -- a copy emitted, run = 0
  have five : ∀ (u : St) (x2 x3 x4 : Int32), wpcV PP 34 cm34 10 179 [some (.ref 0), none, some (.int x2), none, none, none, none, none] [] u Q → own_K u 2 4 5 → wpcV PP 34 cm34 10 9 [some (.ref 0), some (.int 5), some (.int x2), some (.int x3), some (.int x4), none, none, none] [] u Q := fun u x2 x3 x4 fin Ku => c34_9 _ _ _ _ _ _ ⟨fun _ => ⟨fun z => absurd z (by rw [(g9 u Ku).2]; decide), fun _ => fin⟩, fun _ => fin⟩
  apply c34_in
  obtain ⟨s9, s13⟩ := g9 s K
  -- p = 0
  refine c34_9 _ _ _ _ _ _ ⟨fun _ => ⟨fun _ w ew => ⟨fun z => absurd z (by rw [s13, s9]; decide), fun _ => ⟨fun _ => ?_, fun q => absurd rfl q⟩⟩, fun z => absurd (by rw [s13]; decide) z⟩, fun z => absurd (by decide) z⟩
  rw [s13, s9, if_neg (by decide)] at ew
  subst ew
  rw [s9]
  refine own_26c s K 0 2 (by decide) (by decide) _ fun t w2 t29 t30 => ?_
  have sct : own_sc s t := own_sc_w (fun _ _ _ _ _ _ => rfl) w2
  obtain ⟨Kt, tbt, smt⟩ := own_mv t sct
  have x0' : ix (0 : Int32) = 0 := by decide
  rw [x0', x2', ← own_fw_eq (s := s) (t := t) (fun j => w2 2 j (by omega))] at t29 t30
  obtain ⟨m0, m1, m2⟩ := mt t 0 sct (by decide)
  rw [n0, n1] at m0 m1
  have d0 : own_DL 4 2 t 0 0 0 := own_DL_w w2 ⟨by rw [h23]; rfl, by rw [h25]; rfl, rfl, Nat.le_refl _, Nat.le_refl _, fun i hi => absurd hi (by omega), fun j hj => absurd hj (by omega), fun i hi => absurd hi (by omega), fun _ => rfl⟩
  apply c34_77
  refine own_30c t Kt tbt smt 0 (by decide) (by rw [x0']; exact t29) (by rw [x0']; exact t30) _ (fun q => absurd (m1.mpr ⟨rfl, rfl⟩) (q 1)) fun v v0 sb fst => ?_
  rw [x0'] at sb fst
  have kv := ix_int v0
  have vle : ix v ≤ 1 := Classical.byContradiction fun q => m2 (ix v) (by omega) sb
  have ev : v = (if a = c then (if b = d then 0 else 1) else 1) := by
    by_cases q : a = c ∧ b = d
    · have : ix v = 0 := Classical.byContradiction fun r => fst 0 (by omega) (m0.mpr q)
      rw [if_pos q.1, if_pos q.2, i32_eq]; simp; omega
    · have : ix v = 1 := by
        rcases (show ix v = 0 ∨ ix v = 1 by omega) with r | r
        · rw [r] at sb; exact absurd (m0.mp sb) q
        · exact r
      have e1 : (if a = c then (if b = d then (0 : Int32) else 1) else 1) = 1 := by
        by_cases y : a = c
        · rw [if_pos y, if_neg (fun z => q ⟨y, z⟩)]
        · rw [if_neg y]
      rw [e1, i32_eq]; simp; omega
  have vL : own_L 4 2 (ix v) = 2 := by rcases (show ix v = 0 ∨ ix v = 1 by omega) with r | r <;> rw [r] <;> decide
  apply c34_96
  refine ⟨fun q => absurd q (by rw [i32_lt]; simp; omega), fun _ => ⟨fun q => absurd q (by decide), fun _ => c34_113 _ _ _ _ _ _ _ ?_⟩⟩
  refine own_em t 4 2 0 0 0 2 1 v d0 (by decide) (by decide) (by rw [if_pos rfl, vL]; rfl) (by show 0 < 2; decide) (.inl ⟨rfl, rfl⟩) (fun _ => ⟨v0, by omega, fun j hj => ?_⟩) (fun q => absurd q (by decide)) _ fun u hu du u7 u8 _ => ?_
  · rw [vL] at hj; exact (sb j hj).2.2
  have scu : own_sc s u := own_sc_tr sct hu
  obtain ⟨Ku, tbu, smu⟩ := own_mv u scu
  obtain ⟨u9, u13⟩ := g9 u Ku
  apply c34_173
  have e02 : (0 : Int32) + 2 = 2 := by decide
  have e01 : (0 : Int32) + 1 = 1 := by decide
  rw [e02, e01]
  -- p = 2
  refine c34_9 _ _ _ _ _ _ ⟨fun _ => ⟨fun _ w ew => ⟨fun z => absurd z (by rw [u13, u9]; decide), fun _ => ⟨fun _ => ?_, fun q => absurd rfl q⟩⟩, fun z => absurd (by rw [u13]; decide) z⟩, fun z => absurd (by decide) z⟩
  rw [u13, u9, if_neg (by decide)] at ew
  subst ew
  rw [u9]
  refine own_26c u Ku 2 2 (by decide) (by decide) _ fun y w2y y29 y30 => ?_
  have scy : own_sc s y := own_sc_w scu w2y
  obtain ⟨Ky, tby, smy⟩ := own_mv y scy
  obtain ⟨y9, y13⟩ := g9 y Ky
  have dy := own_DL_w w2y du
  have y7 : gI y 7 0 = 1 := by rw [w2y 7 0 (by decide)]; exact u7
  have y8 : gI y 8 0 = v := by rw [w2y 8 0 (by decide)]; exact u8
  have y2 : ∀ j, gI y 2 j = gI s 2 j := fun j => scy 2 j (by decide) (by decide) (by decide) (by omega)
  rw [x2', ← own_fw_eq (s := u) (t := y) (fun j => w2y 2 j (by omega))] at y29 y30
  obtain ⟨m0', m1', m2'⟩ := mt y 2 scy (by decide)
  rw [n2, n3] at m0' m1'
  apply c34_77
  refine own_30c y Ky tby smy 2 (by decide) (by rw [x2']; exact y29) (by rw [x2']; exact y30) _ (fun no => ?_) fun v' v0' sb' fst' => ?_
  · -- no match: e is a literal, then a b is block 0
    have nm0 : ¬ (a = e ∧ b = a) := fun q => no 0 (by rw [x2']; exact m0'.mpr q)
    have nm1 : ¬ (c = e ∧ d = a) := fun q => no 1 (by rw [x2']; exact m1'.mpr q)
    have ek2 : (if e = a then (if a = b then (0 : Int32) else (if e = c then (if a = d then 1 else (-1)) else (-1))) else (if e = c then (if a = d then 1 else (-1)) else (-1))) = -1 := by
      have in2 : (if e = c then (if a = d then (1 : Int32) else (-1)) else (-1)) = -1 := by
        by_cases q : e = c
        · rw [if_pos q, if_neg (fun r => nm1 ⟨q.symm, r.symm⟩)]
        · rw [if_neg q]
      rw [in2]
      by_cases q : e = a
      · rw [if_pos q, if_neg (fun r => nm0 ⟨q.symm, r.symm⟩)]
      · rw [if_neg q]
    apply c34_96
    refine ⟨fun _ => ⟨by decide, ?_⟩, fun q => absurd (by decide) q⟩
    rw [x2']
    refine own_33 y 4 2 1 0 2 dy (by decide) _ fun z hz dz zk z0 => ?_
    have scz := own_sc_tr scy hz
    obtain ⟨Kz, tbz, smz⟩ := own_mv z scz
    obtain ⟨z9, z13⟩ := g9 z Kz
    have z2 : ∀ j, gI z 2 j = gI s 2 j := fun j => scz 2 j (by decide) (by decide) (by decide) (by omega)
    refine ⟨fun q => absurd q (by decide), fun _ => ⟨fun _ => ?_, fun q => absurd (by rw [z9, z13]; decide) q⟩⟩
    refine own_28c z Kz 2 e a b (by decide) (by rw [x2', z2]; exact n2) (by rw [x2', z2]; exact n3) (by rw [x2', z2]; exact n4) he' ha' hb' (by rw [x2', z0 0 29 rfl (by decide), y29, own_fw_eq (fun j => by rw [z2, y2])]) (by rw [x2', z0 0 30 rfl (by decide), y30, own_fw_eq (fun j => by rw [z2, y2])]) _ fun r w2r r29 r30 => ?_
    have scr := own_sc_w scz w2r
    obtain ⟨Kr, tbr, smr⟩ := own_mv r scr
    obtain ⟨r9, r13⟩ := g9 r Kr
    have dr := own_DL_w w2r dz
    have e03 : (2 : Int32) + 1 = 3 := by decide
    have e12 : (1 : Int32) + 1 = 2 := by decide
    refine c34_170 _ _ _ _ _ _ (c34_173 _ _ _ _ _ _ ?_)
    rw [e03, e01, e12]
    have x3' : ix (3 : Int32) = 3 := by decide
    have r2 : ∀ j, gI r 2 j = gI s 2 j := fun j => scr 2 j (by decide) (by decide) (by decide) (by omega)
    rw [x2', ← own_fw_eq (s := z) (t := r) (fun j => by rw [r2, z2])] at r29 r30
    obtain ⟨q0, q1, q2⟩ := mt r 3 scr (by decide)
    rw [n3, n4] at q0 q1
    -- p = 3
    refine c34_9 _ _ _ _ _ _ ⟨fun _ => ⟨fun _ w ew => ⟨fun z => absurd z (by rw [r13, r9]; decide), fun _ => ⟨fun q => absurd q (by decide), fun _ => ?_⟩⟩, fun z => absurd (by rw [r13]; decide) z⟩, fun z => absurd (by decide) z⟩
    rw [r13, r9, if_neg (by decide)] at ew
    subst ew
    apply c34_77
    refine own_30c r Kr tbr smr 3 (by decide) (by rw [x3']; exact r29) (by rw [x3']; exact r30) _ (fun no => absurd (q0.mpr ⟨rfl, rfl⟩) (by have := no 0; rw [x3'] at this; exact this)) fun v3 v30 sb3 fst3 => ?_
    have kv3 := ix_int v30
    have iv3 : ix v3 = 0 := Classical.byContradiction fun q => fst3 0 (by omega) (by rw [x3']; exact q0.mpr ⟨rfl, rfl⟩)
    have ev3 : v3 = 0 := by rw [i32_eq]; simp; omega
    subst ev3
    apply c34_96
    refine ⟨fun q => absurd q (by decide), fun _ => ⟨fun _ => ?_, fun q => absurd (by decide) q⟩⟩
    have r7 : gI r 7 0 = 1 := by rw [w2r 7 0 (by decide), (zk 0).1]; exact y7
    have r8 : gI r 8 0 = v := by rw [w2r 8 0 (by decide), (zk 0).2]; exact y8
    have o1r : own_op 4 2 r 1 = 2 := by have := dr.2.2.1; omega
    refine own_em r 4 2 1 1 3 3 2 1 dr (by decide) (by decide) (by rw [if_neg (by decide), o1r]; rfl) (by omega) (.inr ⟨rfl, by decide⟩) (fun q => absurd q (by decide)) (fun _ => .inr r7) _ fun f hf df f7 f8 fl => ?_
    have scf := own_sc_tr scr hf
    obtain ⟨Kf, _, _⟩ := own_mv f scf
    apply c34_113
    have o2f : own_op 4 2 f 2 = 3 := by have := df.2.2.1; omega
    refine own_em f 4 2 2 0 3 5 1 0 df (by decide) (by decide) (by rw [if_pos rfl, o2f]; decide) (by omega) (.inl ⟨rfl, rfl⟩) (fun _ => ⟨by decide, by decide, fun j hj => ?_⟩) (fun q => absurd q (by decide)) _ fun g hg dg g7 g8 gl => ?_
    · have := (sb3 j (by rw [x0'] at hj; exact hj)).2.2
      rw [x0', x3'] at this
      rw [x0', o2f, hf 1 _ (by decide) (by decide) (by decide) (by omega), hf 2 _ (by decide) (by decide) (by decide) (by omega)]; exact this
    have scg := own_sc_tr scf hg
    obtain ⟨Kg, _, _⟩ := own_mv g scg
    have e35 : (3 : Int32) + 2 = 5 := by decide
    apply c34_173
    rw [e35]
    refine five g _ _ _ (c34_179 _ _ _ ⟨fun q => absurd q (by decide), fun _ => h g v (-1) scg dg ev ek2.symm ?_ ?_ ?_ ?_ ?_ ?_⟩) Kg
    · rw [(gl 0 (by decide)).1, (fl 0 (by decide)).1]; exact r7
    · rw [(gl 0 (by decide)).2, (fl 0 (by decide)).2]; exact r8
    · rw [(gl 1 (by decide)).1, f7]; rfl
    · rw [(gl 1 (by decide)).2, f8]; rfl
    · rw [g7]; rfl
    · rw [g8]; rfl
  · -- a match: then b alone is a literal
    rw [x2'] at sb' fst'
    have kv' := ix_int v0'
    have vle' : ix v' ≤ 1 := Classical.byContradiction fun q => m2' (ix v') (by omega) sb'
    have vL' : own_L 4 2 (ix v') = 2 := by rcases (show ix v' = 0 ∨ ix v' = 1 by omega) with r | r <;> rw [r] <;> decide
    have ek2 : v' = (if e = a then (if a = b then (0 : Int32) else (if e = c then (if a = d then 1 else (-1)) else (-1))) else (if e = c then (if a = d then 1 else (-1)) else (-1))) := by
      by_cases q : a = e ∧ b = a
      · have : ix v' = 0 := Classical.byContradiction fun r => fst' 0 (by omega) (m0'.mpr q)
        rw [if_pos q.1.symm, if_pos q.2.symm, i32_eq]; simp; omega
      · have i1 : ix v' = 1 := by
          rcases (show ix v' = 0 ∨ ix v' = 1 by omega) with r | r
          · rw [r] at sb'; exact absurd (m0'.mp sb') q
          · exact r
        have q1 : c = e ∧ d = a := by rw [i1] at sb'; exact m1'.mp sb'
        have in2 : (if e = c then (if a = d then (1 : Int32) else (-1)) else (-1)) = 1 := by rw [if_pos q1.1.symm, if_pos q1.2.symm]
        rw [in2]
        have : (if e = a then (if a = b then (0 : Int32) else 1) else 1) = 1 := by
          by_cases y : e = a
          · rw [if_pos y, if_neg (fun z => q ⟨y.symm, z.symm⟩)]
          · rw [if_neg y]
        rw [this, i32_eq]; simp; omega
    have nl : ¬ v' < 0 := by rw [i32_lt]; simp; omega
    apply c34_96
    refine ⟨fun q => absurd q nl, fun _ => ⟨fun q => absurd q (by decide), fun _ => c34_113 _ _ _ _ _ _ _ ?_⟩⟩
    have o1y : own_op 4 2 y 1 = 2 := by have := dy.2.2.1; omega
    refine own_em y 4 2 1 0 2 4 1 v' dy (by decide) (by decide) (by rw [if_pos rfl, vL', o1y]) (by omega) (.inl ⟨rfl, rfl⟩) (fun _ => ⟨v0', by omega, fun j hj => ?_⟩) (fun q => absurd q (by decide)) _ fun f hf df f7 f8 fl => ?_
    · rw [vL'] at hj
      rw [o1y]; exact (sb' j hj).2.2
    have scf := own_sc_tr scy hf
    obtain ⟨Kf, _, _⟩ := own_mv f scf
    obtain ⟨f9, f13⟩ := g9 f Kf
    have e24 : (2 : Int32) + 2 = 4 := by decide
    have e12 : (1 : Int32) + 1 = 2 := by decide
    apply c34_173
    rw [e24, e12]
    -- p = 4
    refine c34_9 _ _ _ _ _ _ ⟨fun _ => ⟨fun _ w ew => ⟨fun _ => ?_, fun z => absurd (by rw [f13, f9]; decide) z⟩, fun z => absurd (by rw [f13]; decide) z⟩, fun z => absurd (by decide) z⟩
    have e54 : (5 : Int32) - 4 = 1 := by decide
    rw [f13, e54]
    refine own_31 f (b := 2) Kf (by rw [scf 0 15 (by decide) (by decide) (by decide) (by decide)]; exact hb) (by decide) 4 1 (by decide) (by decide) _ (fun _ => ?_) fun v5 _ _ eL _ => absurd eL (by decide)
    apply c34_96
    have x4' : ix (4 : Int32) = 4 := by decide
    refine ⟨fun _ => ⟨by decide, ?_⟩, fun q => absurd (by decide) q⟩
    rw [x4']
    refine own_33 f 4 2 2 0 4 df (by decide) _ fun g hg dg gk _ => ⟨fun _ => c34_168 _ _ _ _ _ (c34_170 _ _ _ _ _ _ (c34_173 _ _ _ _ _ _ ?_)), fun q => absurd rfl q⟩
    have scg := own_sc_tr scf hg
    obtain ⟨Kg, _, _⟩ := own_mv g scg
    have e45 : (4 : Int32) + 1 = 5 := by decide
    rw [e45, e01]
    refine five g _ _ _ (c34_179 _ _ _ ⟨fun _ => ?_, fun q => absurd (by decide) q⟩) Kg
    have o2g : own_op 4 2 g 2 = 4 := by have := dg.2.2.1; omega
    have g71 : gI g 7 1 = 1 := by rw [(gk 1).1]; exact f7
    refine own_em g 4 2 2 1 5 5 2 1 dg (by decide) (by decide) (by rw [if_neg (by decide), o2g]; rfl) (by omega) (.inr ⟨rfl, by decide⟩) (fun q => absurd q (by decide)) (fun _ => .inr g71) _ fun k hk dk k7 k8 kl => ?_
    refine h k v v' (own_sc_tr scg hk) dk ev ek2 ?_ ?_ ?_ ?_ ?_ ?_
    · rw [(kl 0 (by decide)).1, (gk 0).1, (fl 0 (by decide)).1]; exact y7
    · rw [(kl 0 (by decide)).2, (gk 0).2, (fl 0 (by decide)).2]; exact y8
    · rw [(kl 1 (by decide)).1, g71, if_neg nl]
    · rw [(kl 1 (by decide)).2, (gk 1).2, f8, if_neg nl]
    · rw [k7, if_neg nl]
    · rw [k8, if_neg nl]
theorem law_ok (i0 i1 i2 i3 i4 : Int32) : lalI PP QQ none 0 [.int i0, .int i1, .int i2, .int i3, .int i4] W0 (fun v _ => v = 1) := by
  have ba := own_b255 i0
  have bb := own_b255 i1
  have bd := own_b255 i3
  have be := own_b255 i4
  apply l0_in
  refine own_c0 2 _ fun t B eB It t14 t20 t26 => ?_
  have eB : B = 2 := by
    have : (if (2 : Int32).toInt < 2 then (2 : Int) else if 16 < (2 : Int32).toInt then 16 else (2 : Int32).toInt) = 2 := by decide
    omega
  subst eB
  refine own_o3 t It _ _ (fun q => by rcases q with q | q; · exact absurd t14 q
                                      · omega) fun _ _ a1 I1 c1 v1 => ?_
  have z1 : gI a1 0 14 = 0 := by rw [c1 0 14 (by decide) (by decide)]; exact t14
  refine own_o3 a1 I1 _ _ (fun q => by rcases q with q | q; · exact absurd z1 q
                                       · omega) fun _ _ a2 I2 c2 v2 => ?_
  have z2 : gI a2 0 14 = 0 := by rw [c2 0 14 (by decide) (by decide)]; exact z1
  refine own_o3 a2 I2 _ _ (fun q => by rcases q with q | q; · exact absurd z2 q
                                       · omega) fun _ _ a3 I3 c3 v3 => ?_
  have z3 : gI a3 0 14 = 0 := by rw [c3 0 14 (by decide) (by decide)]; exact z2
  refine own_o3 a3 I3 _ _ (fun q => by rcases q with q | q; · exact absurd z3 q
                                       · omega) fun _ _ a4 I4 c4 v4 => ?_
  have z4 : gI a4 0 14 = 0 := by rw [c4 0 14 (by decide) (by decide)]; exact z3
  have o0 : gI a4 1 0 = i0 &&& 255 := by rw [v4, if_neg (by decide), v3, if_neg (by decide), v2, if_neg (by decide), v1, if_pos rfl]
  have o1 : gI a4 1 1 = i1 &&& 255 := by rw [v4, if_neg (by decide), v3, if_neg (by decide), v2, if_pos rfl]
  have o2 : gI a4 1 2 = i2 &&& 255 := by rw [v4, if_neg (by decide), v3, if_pos rfl]
  have o3 : gI a4 1 3 = i3 &&& 255 := by rw [v4, if_pos rfl]
  refine own_5c a4 I4 z4 _ fun bc g ebc Ig gc g14 g15 tb sm => ?_
  have nb : (0 + 1 + 1 + 1 + 1 + 2 - 1) / 2 = 2 := by decide
  rw [nb] at ebc tb sm
  apply l0_85
  refine own_o4 g Ig _ _ (fun q => by omega) fun _ b1 J1 d1 w1 _ _ => own_o4 b1 J1 _ _ (fun q => by omega) fun _ b2 J2 d2 w2 _ _ => own_o4 b2 J2 _ _ (fun q => by omega) fun _ b3 J3 d3 w3 _ _ => own_o4 b3 J3 _ _ (fun q => by omega) fun _ b4 J4 d4 w4 _ _ => own_o4 b4 J4 _ _ (fun q => by omega) fun _ b5 J5 d5 w5 _ _ => ?_
  have dd : ∀ c j, c ≠ 2 → (c = 0 → j ≤ 15 ∧ j ≠ 13) → gI b5 c j = gI g c j := fun c j x y => by rw [d5 c j x y, d4 c j x y, d3 c j x y, d2 c j x y, d1 c j x y]
  have n0 : gI b5 2 0 = i2 &&& 255 := by rw [w5, if_neg (by decide), w4, if_neg (by decide), w3, if_neg (by decide), w2, if_neg (by decide), w1, if_pos rfl]
  have n1 : gI b5 2 1 = i3 &&& 255 := by rw [w5, if_neg (by decide), w4, if_neg (by decide), w3, if_neg (by decide), w2, if_pos rfl]
  have n2 : gI b5 2 2 = i4 &&& 255 := by rw [w5, if_neg (by decide), w4, if_neg (by decide), w3, if_pos rfl]
  have n3 : gI b5 2 3 = i0 &&& 255 := by rw [w5, if_neg (by decide), w4, if_pos rfl]
  have n4 : gI b5 2 4 = i1 &&& 255 := by rw [w5, if_pos rfl]
  have p1 : ∀ j, gI b5 1 j = gI a4 1 j := fun j => by rw [dd 1 j (by decide) (by omega), gc 1 j (by decide) (by decide) (by decide) (by decide) (by omega)]
  have b14 : gI b5 0 14 = 1 := by rw [dd 0 14 (by decide) (by decide)]; exact g14
  have b15 : (gI b5 0 15).toInt = 2 := by rw [dd 0 15 (by decide) (by decide), g15, ebc]; rfl
  have b3' : ∀ j, gI b5 3 j = gI g 3 j := fun j => dd 3 j (by decide) (by omega)
  have tb5 : own_Tb b5 4 2 2 0 := ⟨fun b b' => by rw [dd 5 b (by decide) (by omega)]; exact own_ls_eq b3' (tb.1 b b'), fun k x y z => by
    have : own_bk b5 k = own_bk g k := by unfold own_bk; rw [b3']
    rw [dd 6 k (by decide) (by omega), this]; exact own_ls_eq b3' (tb.2 k x y z)⟩
  have sm5 : own_Sm b5 2 2 4 := fun k hk => by rw [b3', dd 4 k (by decide) (by omega), own_f_eq (fun j => dd 1 j (by decide) (by omega))]; exact sm k hk
  apply c6_in
  refine ⟨fun q => by rw [b14] at q; exact absurd q (by decide), fun _ => ?_⟩
  apply c18_in
  apply c19_in
  generalize hu : sI (sI (sI (sI (sI b5 0 20 0) 0 23 0) 0 25 0) 0 26 0) 0 28 0 = u
  have uc : ∀ c j, (c = 0 → j ≤ 15) → gI u c j = gI b5 c j := fun c j hc => by
    rw [← hu, gI_sI, if_neg (fun z => by have := hc z.1; omega), gI_sI, if_neg (fun z => by have := hc z.1; omega), gI_sI, if_neg (fun z => by have := hc z.1; omega), gI_sI, if_neg (fun z => by have := hc z.1; omega), gI_sI, if_neg (fun z => by have := hc z.1; omega)]
  have uk : ∀ c j, c ≠ 0 → gI u c j = gI b5 c j := fun c j hc => uc c j fun z => absurd z hc
  have Ku : own_K u 2 4 5 := by
    obtain ⟨h9, h11, h13, r⟩ := J5.1
    exact ⟨by rw [uc 0 9 (by decide)]; exact h9, by rw [uc 0 11 (by decide)]; exact h11, by rw [uc 0 13 (by decide)]; exact h13, r⟩
  have tbu : own_Tb u 4 2 2 0 := ⟨fun b b' => by rw [uk 5 b (by decide)]; exact own_ls_eq (fun j => uk 3 j (by decide)) (tb5.1 b b'), fun k x y z => by
    have : own_bk u k = own_bk b5 k := by unfold own_bk; rw [uk 3 _ (by decide)]
    rw [uk 6 k (by decide), this]; exact own_ls_eq (fun j => uk 3 j (by decide)) (tb5.2 k x y z)⟩
  have smu : own_Sm u 2 2 4 := fun k hk => by rw [uk 3 _ (by decide), uk 4 k (by decide), own_f_eq (fun j => uk 1 j (by decide))]; exact sm5 k hk
  refine own_scan u (i0 &&& 255) (i1 &&& 255) (i2 &&& 255) (i3 &&& 255) (i4 &&& 255) Ku (by rw [uc 0 15 (by decide)]; exact b15) tbu smu (by rw [← hu]; simp [gI_sI]) (by rw [← hu]; simp [gI_sI]) ba bb be (by rw [uk 1 _ (by decide), p1, o0]) (by rw [uk 1 _ (by decide), p1, o1]) (by rw [uk 1 _ (by decide), p1, o2]) (by rw [uk 1 _ (by decide), p1, o3]) (by rw [uk 2 _ (by decide), n0]) (by rw [uk 2 _ (by decide), n1]) (by rw [uk 2 _ (by decide), n2]) (by rw [uk 2 _ (by decide), n3]) (by rw [uk 2 _ (by decide), n4]) _ fun f k1 k2 hf df e1 e2 f70 f80 f71 f81 f72 f82 => ?_
  generalize hw : sI f 0 20 1 = w
  have wk : ∀ c j, (c = 0 → j ≠ 20) → gI w c j = gI f c j := fun c j hc => by rw [← hw, gI_sI, if_neg (fun q => hc q.1 q.2)]
  have w20 : gI w 0 20 = 1 := by rw [← hw]; simp [gI_sI]
  have fr : ∀ c j, c ≠ 7 → c ≠ 8 → c ≠ 9 → (c = 0 → j ≤ 15) → gI w c j = gI b5 c j := fun c j a b d e => by
    rw [wk c j (fun z => by have := e z; omega), hf c j a b d (fun z => by have := e z; omega), uc c j e]
  have dw : own_DL 4 2 w 3 0 5 := own_DL_q (fun c j hc _ => wk c j fun z => absurd z hc) (wk 0 23 (by decide)) (wk 0 25 (by decide)) df
  have w26 : gI w 0 26 = 0 := by rw [wk 0 26 (by decide), hf 0 26 (by decide) (by decide) (by decide) (by decide), ← hu]; simp [gI_sI]
  have Iw : own_Iv w 2 4 5 := by
    obtain ⟨h9, h11, h13, r⟩ := J5.1
    exact ⟨⟨by rw [fr 0 9 (by decide) (by decide) (by decide) (by decide)]; exact h9, by rw [fr 0 11 (by decide) (by decide) (by decide) (by decide)]; exact h11, by rw [fr 0 13 (by decide) (by decide) (by decide) (by decide)]; exact h13, r⟩, fun _ => by rw [fr 0 15 (by decide) (by decide) (by decide) (by decide)]; exact b15, fun _ => ⟨by rw [fr 0 14 (by decide) (by decide) (by decide) (by decide), b14]; decide, 3, dw⟩, fun q => absurd w26 q⟩
  have w23 : gI w 0 23 = 3 := by rw [i32_eq, dw.1]; rfl
  have f23 : gI f 0 23 = 3 := by rw [i32_eq, df.1]; rfl
  rw [f23]
  apply l0_133
  intro m36 e36
  rw [← e1] at e36
  subst e36
  apply l0_152
  intro m41 e41
  rw [← e2] at e41
  subst e41
  apply l0_191
  intro m50 e50 m53 e53 m56 e56 m59 e59
  have vo : ∀ (k : Int32) (Q : Int32 → St → Prop), 0 ≤ k.toInt → k.toInt < 3 → Q 1 w → calI PP 21 10 [.ref 0, .int k] w Q := fun k Q k0 k1 q => c21_in _ _ _ ⟨fun z => by rw [w20] at z; exact absurd z (by decide), fun _ => ⟨fun z => absurd z (by rw [i32_lt]; simp; omega), fun _ => ⟨fun _ => ⟨fun _ => q, fun z => absurd (by rw [i32_lt]; simp; omega) z⟩, fun z => absurd (by rw [w23, i32_lt]; simp; omega) z⟩⟩⟩
  have c14 : ∀ (k : Int32) (Q : Int32 → St → Prop), 0 ≤ k.toInt → k.toInt < 3 → Q (gI w 7 (ix k)) w → calI PP 14 10 [.ref 0, .int k] w Q := fun k Q k0 k1 q => c14_in _ _ _ (vo k _ k0 k1 ⟨fun z => absurd z (by decide), fun _ => ⟨⟨k0, by show _ < (128 : Int); omega⟩, q⟩⟩)
  have c15 : ∀ (k : Int32) (Q : Int32 → St → Prop), 0 ≤ k.toInt → k.toInt < 3 → Q (gI w 8 (ix k)) w → calI PP 15 10 [.ref 0, .int k] w Q := fun k Q k0 k1 q => c15_in _ _ _ (vo k _ k0 k1 ⟨fun z => absurd z (by decide), fun _ => ⟨⟨k0, by show _ < (128 : Int); omega⟩, q⟩⟩)
  have x0 : ix (0 : Int32) = 0 := by decide
  have x1 : ix (1 : Int32) = 1 := by decide
  have x2 : ix (2 : Int32) = 2 := by decide
  have x3 : ix (3 : Int32) = 3 := by decide
  have x4 : ix (4 : Int32) = 4 := by decide
  refine c14 0 _ (by decide) (by decide) (c15 0 _ (by decide) (by decide) (c14 1 _ (by decide) (by decide) (c15 1 _ (by decide) (by decide) (c14 2 _ (by decide) (by decide) (c15 2 _ (by decide) (by decide) ?_)))))
  rw [x0, x1, x2, wk 7 0 (by decide), wk 8 0 (by decide), wk 7 1 (by decide), wk 8 1 (by decide), wk 7 2 (by decide), wk 8 2 (by decide), f70, f80, f71, f81, f72, f82, ← e50, ← e53, ← e56, ← e59]
  apply l0_290
  refine own_o7 w Iw _ (fun q => by rw [w20] at q; exact absurd q (by decide)) fun _ pl z Iz zc z26 z28 epl out => ?_
  have z2 : ∀ j, gI z 2 j = gI b5 2 j := fun j => by rw [zc 2 j (by decide) (by omega), fr 2 j (by decide) (by decide) (by decide) (by omega)]
  have n26 : gI z 0 26 ≠ 0 := by rw [z26]; decide
  refine own_17 z Iz 0 _ (own_17 z Iz 1 _ (own_17 z Iz 2 _ (own_17 z Iz 3 _ (own_17 z Iz 4 _ ?_))))
  rw [if_pos ⟨n26, by decide, by decide⟩, if_pos ⟨n26, by decide, by decide⟩, if_pos ⟨n26, by decide, by decide⟩, if_pos ⟨n26, by decide, by decide⟩, if_pos ⟨n26, by decide, by decide⟩, x0, x1, x2, x3, x4, z2, z2, z2, z2, z2, n0, n1, n2, n3, n4]
  have epl : pl = 5 := by rw [i32_eq, epl]; rfl
  have ebc : bc = 2 := by rw [i32_eq, ebc]; rfl
  subst epl ebc
  apply l0_337
  intro m1 f1
  have f1 : m1 = 1 := by rw [f1]; decide
  subst f1
  apply l0_387
  intro m2 f2
  have f2 : m2 = 1 := by rw [f2]; simp
  subst f2
  apply l0_441
  intro m3 f3
  have f3 : m3 = 1 := by rw [f3]; simp
  subst f3
  apply l0_489
  exact ⟨fun q => absurd q (by decide), fun _ => ⟨fun _ => ⟨fun q => absurd q (by decide), fun _ => ⟨fun q => absurd q (by decide), fun _ => rfl⟩⟩, fun q => absurd rfl q⟩⟩
theorem comes_1 {Post : Tables → Env → Array Value → State → Outcome → State → Prop} (hpost : ∀ tb e args s v u, (limb_1_1.after args s (.returned v) u = true ∧ limb_1_2.after args s (.returned v) u = true ∧ True) → FrameEnd s (.returned v) u (Jvm.fieldLocs frame_1_writes args s ++ Jvm.arrayLocs frame_1_arrays args s ++ Jvm.staticLocs frame_1_statics s) 32 2176 → Post tb e args s (.returned v) u) :
    ArmFor flags0 classFile x code maxLocals ret World_1 tables_1 room_1 Calls_1 rest_1 Pre_1 Post := by
  intro l hfl _ _ p e ha hc hk s m args below hf hA hF happ hP
  obtain ⟨hcalls, hrest, hpre⟩ := hP
  obtain ⟨-, -, -, hnamed, -, -, -, hat⟩ := (Spec.applies_iff hf).mp happ
  obtain ⟨hg, hn⟩ := and_e (Cond.before_iff.mp (show (Jvm.Cond.and given_1 narrow_1).before args s = true from hpre))
  obtain ⟨h1, g0⟩ := and_e hg
  obtain ⟨w0, w1, w2, w3, w4, rfl⟩ : ∃ w0 w1 w2 w3 w4 : Value, args = #[w0, w1, w2, w3, w4] := by
    have hs : args.size = 5 := by simpa [Cond.value, given_1] using h1
    obtain ⟨L⟩ := args
    match L, hs with
    | [w0, w1, w2, w3, w4], _ => exact ⟨w0, w1, w2, w3, w4, rfl⟩
  have hw := fun d (hd : d ∈ tables_1) => atoms_spec (ws := Jvm.Cond.code x code maxLocals ret :: tables_1) hat d (List.mem_cons_of_mem _ hd)
  have hfit : Fit s := fun {y c} hc i hi => by
    obtain ⟨ha, rfl⟩ := Array.getElem?_eq_some_iff.mp hc
    have q := List.all_eq_true.mp ((Array.all_eq_true_iff_forall_mem.mp hF) _ (Array.getElem_mem ha)) i (List.mem_range.mpr hi)
    simpa [Array.getElem?_eq_getElem hi] using q
  obtain ⟨q0, g1⟩ := and_e g0
  obtain ⟨i0, e0⟩ := is_v q0
  obtain rfl : w0 = (.int i0) := Option.some.inj e0
  obtain ⟨q1, g2⟩ := and_e g1
  obtain ⟨i1, e1⟩ := is_v q1
  obtain rfl : w1 = (.int i1) := Option.some.inj e1
  obtain ⟨q2, g3⟩ := and_e g2
  obtain ⟨i2, e2⟩ := is_v q2
  obtain rfl : w2 = (.int i2) := Option.some.inj e2
  obtain ⟨q3, g4⟩ := and_e g3
  obtain ⟨i3, e3⟩ := is_v q3
  obtain rfl : w3 = (.int i3) := Option.some.inj e3
  have q4 := g4
  obtain ⟨i4, e4⟩ := is_v q4
  obtain rfl : w4 = (.int i4) := Option.some.inj e4
  obtain ⟨f, w0, hr⟩ := law_run (law_ok i0 i1 i2 i3 i4) (me := lm0) rfl
  have M : MetFree l x (head1 (Jvm.Cond.code x code maxLocals ret :: tables_1) room_1) (fun b U => b = #[.int i0, .int i1, .int i2, .int i3, .int i4] ∧ s.Warmed39 U.vm ∧ U.heap = s.heap) (fun _ _ _ _ _ => True) (fun _ U o U' => ∃ u L, o = .returned u ∧ (u = some (.int 1) ∧ Fr s.heap.size L) ∧ FrameEnd U o U' L 32 2176) :=
    law_met (lkC s _ hw) (lkL s _ hw) (sc := none) (a := 0) (me := lm0) rfl l (bytes := code) (chk_ok dk_l0) (as := [.int i0, .int i1, .int i2, .int i3, .int i4]) rfl (Nat.le_of_ble_eq_true rfl) hr trivial
  obtain ⟨n, o, h1, h2, h3, _, L, rfl, ⟨rfl, N⟩, hq⟩ := M p e ha hc hk s m _ below hf ((Spec.applies_iff_loose hf).mp happ).1 ⟨rfl, State.Warmed39.refl s, rfl⟩ trivial
  refine ⟨n, _, h1, h2, h3, hpost _ _ _ _ _ _ ⟨Cond.after_iff.mpr rfl, Cond.after_iff.mpr (eq_i res_at (Term.int_eval (1)) rfl), trivial⟩ ⟨hq.1, hq.2.1, (hq.2.2.sift fun y hy => Or.inr (N y hy)).mono (by decide) (by decide)⟩⟩
theorem main_1_1 : Claimed_1_1 := comes_1 fun _ _ _ _ _ _ h hF => ⟨h.1, hF⟩
theorem main_1_2 : Claimed_1_2 := comes_1 fun _ _ _ _ _ _ h hF => ⟨h.2.1, hF⟩
end Jvm.Pilot.@@N@@
namespace Jvm.Pilot.@@N@@
open Jvm Jvm.ClassFile Sem Op Lib Jvm.Free Jvm.Stand Jvm.Pilot.@@N@@.Jvm.D
/-! MADE BY PROGRAM (witnessworld.py) out of the Statement's table words and the real class files: 9 classes; the members and pool entries that the words name. The judged class is class 1, her method 1. -/
namespace start1
open Jvm.ClassFile
def u (s : String) : CpInfo := .utf8 (stringToUtf16 s)
/-- a pool by its gaps: so many unusable entries, then the entry; so many at the end -/
def gap : Nat → List CpInfo → List CpInfo
  | 0, r => r
  | n + 1, r => .unusable :: gap n r
def poolList (es : List (Nat × CpInfo)) (last : Nat) : List CpInfo := es.foldr (fun e r => gap e.1 (e.2 :: r)) (gap last [])
def pool (es : List (Nat × CpInfo)) (last : Nat) : Array CpInfo := ⟨poolList es last⟩
def fileOf (pool : Array CpInfo) (this : Nat) (attrs : Array Attribute := #[]) (ms : Array MethodInfo := #[]) (fl : Nat := 33) (sup : Nat := 0) (ifs : Array Nat := #[]) (fds : Array FieldInfo := #[]) : ClassFile where
  minorVersion := 0
  majorVersion := 65
  constantPool := pool
  accessFlags := fl
  thisClass := this
  superClass := sup
  interfaces := ifs
  fields := fds
  methods := ms
  attributes := attrs
def plain (name : String) (sup : Option ClassId) : Class where
  name := name
  kind := .ordinary
  loader := none
  accessFlags := 33
  super := sup
  interfaces := #[]
  cf := none
  fields := #[]
  methods := #[]
  instanceTypes := #[]
  staticTypes := #[]
  resolved := #[]
  callSites := []
  init := .initialized
  statics := none
  mirror := none

def pool0 : Array CpInfo := pool [(5, u "<init>"), (0, u "()V"), (1, .class_ 10), (1, u "java/lang/Object")] 113

def k0c0 : Code := { maxStack := 0, maxLocals := 1, code := object_method_1_code, exceptionTable := #[], attributes := #[] }
def k0m0 : Method := { name := "<init>", desc := "()V", sig := { parameters := [], returnType := none }, accessFlags := 1, code := some k0c0 }
/-- java/lang/Object -/
def k0 : Class := { plain "java/lang/Object" none with
  accessFlags := 33
  interfaces := #[]
  cf := some (fileOf pool0 8 #[] #[{ accessFlags := 1, nameIndex := 5, descriptorIndex := 6, attributes := #[] }] 33 0 #[] #[])
  fields := #[]
  methods := #[k0m0]
  instanceTypes := #[]
  staticTypes := #[]
  resolved := Array.replicate 124 none
  statics := none }

def pool1 : Array CpInfo := pool [(2, .class_ 4), (1, u "java/lang/Object"), (0, u "<init>"), (0, u "()V"), (0, .class_ 8), (0, u "RsyncDelta"), (0, .methodref 7 10), (0, .nameAndType 5 11), (0, u "(I)V"), (0, .methodref 7 13), (0, .nameAndType 14 15), (0, u "appendOld"), (0, u "(I)Z"), (0, .methodref 7 17), (0, .nameAndType 18 19), (0, u "sign"), (0, u "()I"), (0, .methodref 7 21), (0, .nameAndType 22 15), (0, u "appendNew"), (0, .methodref 7 24), (0, .nameAndType 25 19), (0, u "computeDelta"), (0, .methodref 7 27), (0, .nameAndType 28 29), (0, u "getOpKind"), (0, u "(I)I"), (0, .methodref 7 31), (0, .nameAndType 32 29), (0, u "getOpValue"), (0, .methodref 7 34), (0, .nameAndType 35 19), (0, u "patch"), (0, .methodref 7 37), (0, .nameAndType 38 29), (0, u "getOutByte"), (0, .class_ 40), (0, u "RsyncDeltaL3"), (2, u "law"), (0, u "(IIIII)Z")] 3

def k1m0 : Method := { name := "<init>", desc := "()V", sig := { parameters := [], returnType := none }, accessFlags := 1, code := none }
def k1c1 : Code := { maxStack := 3, maxLocals := 43, code := code, exceptionTable := #[], attributes := #[] }
def k1m1 : Method := { name := "law", desc := "(IIIII)Z", sig := { parameters := [.int, .int, .int, .int, .int], returnType := some .boolean }, accessFlags := 9, code := some k1c1 }
/-- RsyncDeltaL3 -/
def k1 : Class := { plain "RsyncDeltaL3" (some 0) with
  accessFlags := 49
  interfaces := #[]
  cf := some (fileOf pool1 39 #[] #[{ accessFlags := 1, nameIndex := 5, descriptorIndex := 6, attributes := #[] }, { accessFlags := 9, nameIndex := 43, descriptorIndex := 44, attributes := #[] }] 49 2 #[] #[])
  fields := #[]
  methods := #[k1m0, k1m1]
  instanceTypes := #[]
  staticTypes := #[]
  resolved := Array.replicate 48 none
  statics := none }

def pool2 : Array CpInfo := pool [(1, .methodref 2 3), (0, .class_ 4), (0, .nameAndType 5 6), (0, u "java/lang/Object"), (0, u "<init>"), (0, u "()V"), (0, .fieldref 8 9), (0, .class_ 10), (0, .nameAndType 11 12), (0, u "RsyncDelta"), (0, u "oldBytes"), (0, u "[I"), (0, .fieldref 8 14), (0, .nameAndType 15 12), (0, u "newBytes"), (0, .fieldref 8 17), (0, .nameAndType 18 12), (0, u "weakSums"), (0, .fieldref 8 20), (0, .nameAndType 21 12), (0, u "strongSums"), (0, .fieldref 8 23), (0, .nameAndType 24 12), (0, u "heads"), (0, .fieldref 8 26), (0, .nameAndType 27 12), (0, u "nextInChain"), (0, .fieldref 8 29), (0, .nameAndType 30 12), (0, u "opKinds"), (0, .fieldref 8 32), (0, .nameAndType 33 12), (0, u "opValues"), (0, .fieldref 8 35), (0, .nameAndType 36 12), (0, u "litBytes"), (0, .fieldref 8 38), (0, .nameAndType 39 12), (0, u "outBytes"), (0, .fieldref 8 41), (0, .nameAndType 42 43), (0, u "blockSize"), (0, u "I"), (0, .fieldref 8 45), (0, .nameAndType 46 43), (0, u "oldLen"), (0, .fieldref 8 48), (0, .nameAndType 49 43), (0, u "newLen"), (0, .fieldref 8 51), (0, .nameAndType 52 53), (0, u "signed"), (0, u "Z"), (0, .fieldref 8 55), (0, .nameAndType 56 43), (0, u "blockCount"), (0, .methodref 8 58), (0, .nameAndType 59 6), (0, u "clearDelta"), (0, .methodref 8 61), (0, .nameAndType 62 6), (0, u "clearOutput"), (0, .methodref 8 64), (0, .nameAndType 65 66), (0, u "computeBlockSums"), (0, u "(I)V"), (0, .methodref 8 68), (0, .nameAndType 69 6), (0, u "buildTable"), (0, .methodref 8 71), (0, .nameAndType 72 6), (0, u "scanNew"), (0, .fieldref 8 74), (0, .nameAndType 75 53), (0, u "deltaPresent"), (0, .fieldref 8 77), (0, .nameAndType 78 43), (0, u "opCount"), (0, .fieldref 8 80), (0, .nameAndType 81 43), (0, u "outLen"), (0, .methodref 8 83), (0, .nameAndType 84 66), (0, u "copyBlockOut"), (0, .methodref 8 86), (0, .nameAndType 87 88), (0, u "copyLiteralsOut"), (0, u "(II)I"), (0, .fieldref 8 90), (0, .nameAndType 91 53), (0, u "outPresent"), (3, u "(I)Z"), (0, .methodref 8 97), (0, .nameAndType 98 95), (0, u "validOp"), (0, .fieldref 8 100), (0, .nameAndType 101 43), (0, u "litLen"), (0, .methodref 8 103), (0, .nameAndType 104 105), (0, u "blockLen"), (0, u "(I)I"), (0, .integer 2166136261), (0, .integer 65535), (0, .integer 16777619), (0, .integer 65536), (0, .methodref 8 111), (0, .nameAndType 112 88), (0, u "bucketOf"), (0, .fieldref 8 114), (0, .nameAndType 115 43), (0, u "winA"), (0, .fieldref 8 117), (0, .nameAndType 118 43), (0, u "winS"), (0, .methodref 8 120), (0, .nameAndType 121 88), (0, u "windowStrong"), (0, .methodref 8 123), (0, .nameAndType 124 125), (0, u "sameBytes"), (0, u "(III)Z"), (0, .methodref 8 127), (0, .nameAndType 128 129), (0, u "windowSums"), (0, u "(II)V"), (0, .methodref 8 131), (0, .nameAndType 132 105), (0, u "findFullMatch"), (0, .methodref 8 134), (0, .nameAndType 135 88), (0, u "findTailMatch"), (0, .methodref 8 137), (0, .nameAndType 138 129), (0, u "emitOp"), (0, .methodref 8 140), (0, .nameAndType 141 66), (0, u "keepLiteral"), (0, .methodref 8 143), (0, .nameAndType 144 66), (0, u "rollWindow"), (0, u "REFUSED"), (2, u "OP_NONE"), (1, u "OP_COPY"), (1, u "OP_LITERAL"), (1, u "OLD_CAPACITY"), (1, u "NEW_CAPACITY"), (0, u "MIN_BLOCK"), (0, u "MAX_BLOCK"), (5, u "appendOld"), (0, u "appendNew"), (0, u "sign"), (0, u "()I"), (0, u "computeDelta"), (0, u "patch"), (6, u "getOpKind"), (0, u "getOpValue"), (1, u "getOutByte")] 2

def k2c0 : Code := { maxStack := 2, maxLocals := 3, code := prog_1_method_1_code, exceptionTable := #[], attributes := #[] }
def k2m0 : Method := { name := "<init>", desc := "(I)V", sig := { parameters := [.int], returnType := none }, accessFlags := 1, code := some k2c0 }
def k2c1 : Code := { maxStack := 4, maxLocals := 2, code := prog_1_method_3_code, exceptionTable := #[], attributes := #[] }
def k2m1 : Method := { name := "appendOld", desc := "(I)Z", sig := { parameters := [.int], returnType := some .boolean }, accessFlags := 1, code := some k2c1 }
def k2c2 : Code := { maxStack := 4, maxLocals := 2, code := prog_1_method_4_code, exceptionTable := #[], attributes := #[] }
def k2m2 : Method := { name := "appendNew", desc := "(I)Z", sig := { parameters := [.int], returnType := some .boolean }, accessFlags := 1, code := some k2c2 }
def k2c3 : Code := { maxStack := 3, maxLocals := 2, code := prog_1_method_5_code, exceptionTable := #[], attributes := #[] }
def k2m3 : Method := { name := "sign", desc := "()I", sig := { parameters := [], returnType := some .int }, accessFlags := 1, code := some k2c3 }
def k2c4 : Code := { maxStack := 2, maxLocals := 1, code := prog_1_method_6_code, exceptionTable := #[], attributes := #[] }
def k2m4 : Method := { name := "computeDelta", desc := "()I", sig := { parameters := [], returnType := some .int }, accessFlags := 1, code := some k2c4 }
def k2c5 : Code := { maxStack := 4, maxLocals := 3, code := prog_1_method_7_code, exceptionTable := #[], attributes := #[] }
def k2m5 : Method := { name := "patch", desc := "()I", sig := { parameters := [], returnType := some .int }, accessFlags := 1, code := some k2c5 }
def k2c6 : Code := { maxStack := 2, maxLocals := 2, code := prog_1_method_14_code, exceptionTable := #[], attributes := #[] }
def k2m6 : Method := { name := "getOpKind", desc := "(I)I", sig := { parameters := [.int], returnType := some .int }, accessFlags := 1, code := some k2c6 }
def k2c7 : Code := { maxStack := 2, maxLocals := 2, code := prog_1_method_15_code, exceptionTable := #[], attributes := #[] }
def k2m7 : Method := { name := "getOpValue", desc := "(I)I", sig := { parameters := [.int], returnType := some .int }, accessFlags := 1, code := some k2c7 }
def k2c8 : Code := { maxStack := 2, maxLocals := 2, code := prog_1_method_17_code, exceptionTable := #[], attributes := #[] }
def k2m8 : Method := { name := "getOutByte", desc := "(I)I", sig := { parameters := [.int], returnType := some .int }, accessFlags := 1, code := some k2c8 }
def k2c9 : Code := { maxStack := 2, maxLocals := 1, code := prog_1_method_18_code, exceptionTable := #[], attributes := #[] }
def k2m9 : Method := { name := "clearDelta", desc := "()V", sig := { parameters := [], returnType := none }, accessFlags := 2, code := some k2c9 }
def k2c10 : Code := { maxStack := 2, maxLocals := 1, code := prog_1_method_19_code, exceptionTable := #[], attributes := #[] }
def k2m10 : Method := { name := "clearOutput", desc := "()V", sig := { parameters := [], returnType := none }, accessFlags := 2, code := some k2c10 }
def k2c11 : Code := { maxStack := 2, maxLocals := 2, code := prog_1_method_21_code, exceptionTable := #[], attributes := #[] }
def k2m11 : Method := { name := "validOp", desc := "(I)Z", sig := { parameters := [.int], returnType := some .boolean }, accessFlags := 2, code := some k2c11 }
def k2c12 : Code := { maxStack := 2, maxLocals := 4, code := prog_1_method_22_code, exceptionTable := #[], attributes := #[] }
def k2m12 : Method := { name := "blockLen", desc := "(I)I", sig := { parameters := [.int], returnType := some .int }, accessFlags := 2, code := some k2c12 }
def k2c13 : Code := { maxStack := 5, maxLocals := 10, code := prog_1_method_23_code, exceptionTable := #[], attributes := #[] }
def k2m13 : Method := { name := "computeBlockSums", desc := "(I)V", sig := { parameters := [.int], returnType := none }, accessFlags := 2, code := some k2c13 }
def k2c14 : Code := { maxStack := 3, maxLocals := 3, code := prog_1_method_24_code, exceptionTable := #[], attributes := #[] }
def k2m14 : Method := { name := "bucketOf", desc := "(II)I", sig := { parameters := [.int, .int], returnType := some .int }, accessFlags := 2, code := some k2c14 }
def k2c15 : Code := { maxStack := 4, maxLocals := 4, code := prog_1_method_25_code, exceptionTable := #[], attributes := #[] }
def k2m15 : Method := { name := "buildTable", desc := "()V", sig := { parameters := [], returnType := none }, accessFlags := 2, code := some k2c15 }
def k2c16 : Code := { maxStack := 3, maxLocals := 7, code := prog_1_method_26_code, exceptionTable := #[], attributes := #[] }
def k2m16 : Method := { name := "windowSums", desc := "(II)V", sig := { parameters := [.int, .int], returnType := none }, accessFlags := 2, code := some k2c16 }
def k2c17 : Code := { maxStack := 3, maxLocals := 6, code := prog_1_method_27_code, exceptionTable := #[], attributes := #[] }
def k2m17 : Method := { name := "windowStrong", desc := "(II)I", sig := { parameters := [.int, .int], returnType := some .int }, accessFlags := 2, code := some k2c17 }
def k2c18 : Code := { maxStack := 4, maxLocals := 5, code := prog_1_method_28_code, exceptionTable := #[], attributes := #[] }
def k2m18 : Method := { name := "rollWindow", desc := "(I)V", sig := { parameters := [.int], returnType := none }, accessFlags := 2, code := some k2c18 }
def k2c19 : Code := { maxStack := 3, maxLocals := 8, code := prog_1_method_29_code, exceptionTable := #[], attributes := #[] }
def k2m19 : Method := { name := "sameBytes", desc := "(III)Z", sig := { parameters := [.int, .int, .int], returnType := some .boolean }, accessFlags := 2, code := some k2c19 }
def k2c20 : Code := { maxStack := 4, maxLocals := 7, code := prog_1_method_30_code, exceptionTable := #[], attributes := #[] }
def k2m20 : Method := { name := "findFullMatch", desc := "(I)I", sig := { parameters := [.int], returnType := some .int }, accessFlags := 2, code := some k2c20 }
def k2c21 : Code := { maxStack := 4, maxLocals := 4, code := prog_1_method_31_code, exceptionTable := #[], attributes := #[] }
def k2m21 : Method := { name := "findTailMatch", desc := "(II)I", sig := { parameters := [.int, .int], returnType := some .int }, accessFlags := 2, code := some k2c21 }
def k2c22 : Code := { maxStack := 3, maxLocals := 3, code := prog_1_method_32_code, exceptionTable := #[], attributes := #[] }
def k2m22 : Method := { name := "emitOp", desc := "(II)V", sig := { parameters := [.int, .int], returnType := none }, accessFlags := 2, code := some k2c22 }
def k2c23 : Code := { maxStack := 3, maxLocals := 2, code := prog_1_method_33_code, exceptionTable := #[], attributes := #[] }
def k2m23 : Method := { name := "keepLiteral", desc := "(I)V", sig := { parameters := [.int], returnType := none }, accessFlags := 2, code := some k2c23 }
def k2c24 : Code := { maxStack := 3, maxLocals := 8, code := prog_1_method_34_code, exceptionTable := #[], attributes := #[] }
def k2m24 : Method := { name := "scanNew", desc := "()V", sig := { parameters := [], returnType := none }, accessFlags := 2, code := some k2c24 }
def k2c25 : Code := { maxStack := 4, maxLocals := 6, code := prog_1_method_35_code, exceptionTable := #[], attributes := #[] }
def k2m25 : Method := { name := "copyBlockOut", desc := "(I)V", sig := { parameters := [.int], returnType := none }, accessFlags := 2, code := some k2c25 }
def k2c26 : Code := { maxStack := 4, maxLocals := 5, code := prog_1_method_36_code, exceptionTable := #[], attributes := #[] }
def k2m26 : Method := { name := "copyLiteralsOut", desc := "(II)I", sig := { parameters := [.int, .int], returnType := some .int }, accessFlags := 2, code := some k2c26 }
/-- RsyncDelta -/
def k2 : Class := { plain "RsyncDelta" (some 0) with
  accessFlags := 49
  interfaces := #[]
  cf := some (fileOf pool2 8 #[] #[{ accessFlags := 1, nameIndex := 5, descriptorIndex := 66, attributes := #[] }, { accessFlags := 1, nameIndex := 164, descriptorIndex := 95, attributes := #[] }, { accessFlags := 1, nameIndex := 165, descriptorIndex := 95, attributes := #[] }, { accessFlags := 1, nameIndex := 166, descriptorIndex := 167, attributes := #[] }, { accessFlags := 1, nameIndex := 168, descriptorIndex := 167, attributes := #[] }, { accessFlags := 1, nameIndex := 169, descriptorIndex := 167, attributes := #[] }, { accessFlags := 1, nameIndex := 176, descriptorIndex := 105, attributes := #[] }, { accessFlags := 1, nameIndex := 177, descriptorIndex := 105, attributes := #[] }, { accessFlags := 1, nameIndex := 179, descriptorIndex := 105, attributes := #[] }, { accessFlags := 2, nameIndex := 59, descriptorIndex := 6, attributes := #[] }, { accessFlags := 2, nameIndex := 62, descriptorIndex := 6, attributes := #[] }, { accessFlags := 2, nameIndex := 98, descriptorIndex := 95, attributes := #[] }, { accessFlags := 2, nameIndex := 104, descriptorIndex := 105, attributes := #[] }, { accessFlags := 2, nameIndex := 65, descriptorIndex := 66, attributes := #[] }, { accessFlags := 2, nameIndex := 112, descriptorIndex := 88, attributes := #[] }, { accessFlags := 2, nameIndex := 69, descriptorIndex := 6, attributes := #[] }, { accessFlags := 2, nameIndex := 128, descriptorIndex := 129, attributes := #[] }, { accessFlags := 2, nameIndex := 121, descriptorIndex := 88, attributes := #[] }, { accessFlags := 2, nameIndex := 144, descriptorIndex := 66, attributes := #[] }, { accessFlags := 2, nameIndex := 124, descriptorIndex := 125, attributes := #[] }, { accessFlags := 2, nameIndex := 132, descriptorIndex := 105, attributes := #[] }, { accessFlags := 2, nameIndex := 135, descriptorIndex := 88, attributes := #[] }, { accessFlags := 2, nameIndex := 138, descriptorIndex := 129, attributes := #[] }, { accessFlags := 2, nameIndex := 141, descriptorIndex := 66, attributes := #[] }, { accessFlags := 2, nameIndex := 72, descriptorIndex := 6, attributes := #[] }, { accessFlags := 2, nameIndex := 84, descriptorIndex := 66, attributes := #[] }, { accessFlags := 2, nameIndex := 87, descriptorIndex := 88, attributes := #[] }] 49 2 #[] #[{ accessFlags := 25, nameIndex := 145, descriptorIndex := 43, attributes := #[] }, { accessFlags := 25, nameIndex := 148, descriptorIndex := 43, attributes := #[] }, { accessFlags := 25, nameIndex := 150, descriptorIndex := 43, attributes := #[] }, { accessFlags := 25, nameIndex := 152, descriptorIndex := 43, attributes := #[] }, { accessFlags := 25, nameIndex := 154, descriptorIndex := 43, attributes := #[] }, { accessFlags := 25, nameIndex := 156, descriptorIndex := 43, attributes := #[] }, { accessFlags := 25, nameIndex := 157, descriptorIndex := 43, attributes := #[] }, { accessFlags := 25, nameIndex := 158, descriptorIndex := 43, attributes := #[] }, { accessFlags := 2, nameIndex := 42, descriptorIndex := 43, attributes := #[] }, { accessFlags := 2, nameIndex := 11, descriptorIndex := 12, attributes := #[] }, { accessFlags := 2, nameIndex := 46, descriptorIndex := 43, attributes := #[] }, { accessFlags := 2, nameIndex := 15, descriptorIndex := 12, attributes := #[] }, { accessFlags := 2, nameIndex := 49, descriptorIndex := 43, attributes := #[] }, { accessFlags := 2, nameIndex := 52, descriptorIndex := 53, attributes := #[] }, { accessFlags := 2, nameIndex := 56, descriptorIndex := 43, attributes := #[] }, { accessFlags := 2, nameIndex := 18, descriptorIndex := 12, attributes := #[] }, { accessFlags := 2, nameIndex := 21, descriptorIndex := 12, attributes := #[] }, { accessFlags := 2, nameIndex := 24, descriptorIndex := 12, attributes := #[] }, { accessFlags := 2, nameIndex := 27, descriptorIndex := 12, attributes := #[] }, { accessFlags := 2, nameIndex := 75, descriptorIndex := 53, attributes := #[] }, { accessFlags := 2, nameIndex := 30, descriptorIndex := 12, attributes := #[] }, { accessFlags := 2, nameIndex := 33, descriptorIndex := 12, attributes := #[] }, { accessFlags := 2, nameIndex := 78, descriptorIndex := 43, attributes := #[] }, { accessFlags := 2, nameIndex := 36, descriptorIndex := 12, attributes := #[] }, { accessFlags := 2, nameIndex := 101, descriptorIndex := 43, attributes := #[] }, { accessFlags := 2, nameIndex := 91, descriptorIndex := 53, attributes := #[] }, { accessFlags := 2, nameIndex := 39, descriptorIndex := 12, attributes := #[] }, { accessFlags := 2, nameIndex := 81, descriptorIndex := 43, attributes := #[] }, { accessFlags := 2, nameIndex := 115, descriptorIndex := 43, attributes := #[] }, { accessFlags := 2, nameIndex := 118, descriptorIndex := 43, attributes := #[] }])
  fields := #[{ name := "REFUSED", type := .int, accessFlags := 25, slot := 0, constantValue := 0 }, { name := "OP_NONE", type := .int, accessFlags := 25, slot := 1, constantValue := 0 }, { name := "OP_COPY", type := .int, accessFlags := 25, slot := 2, constantValue := 0 }, { name := "OP_LITERAL", type := .int, accessFlags := 25, slot := 3, constantValue := 0 }, { name := "OLD_CAPACITY", type := .int, accessFlags := 25, slot := 4, constantValue := 0 }, { name := "NEW_CAPACITY", type := .int, accessFlags := 25, slot := 5, constantValue := 0 }, { name := "MIN_BLOCK", type := .int, accessFlags := 25, slot := 6, constantValue := 0 }, { name := "MAX_BLOCK", type := .int, accessFlags := 25, slot := 7, constantValue := 0 }, { name := "blockSize", type := .int, accessFlags := 2, slot := 0, constantValue := 0 }, { name := "oldBytes", type := (.array .int), accessFlags := 2, slot := 1, constantValue := 0 }, { name := "oldLen", type := .int, accessFlags := 2, slot := 2, constantValue := 0 }, { name := "newBytes", type := (.array .int), accessFlags := 2, slot := 3, constantValue := 0 }, { name := "newLen", type := .int, accessFlags := 2, slot := 4, constantValue := 0 }, { name := "signed", type := .boolean, accessFlags := 2, slot := 5, constantValue := 0 }, { name := "blockCount", type := .int, accessFlags := 2, slot := 6, constantValue := 0 }, { name := "weakSums", type := (.array .int), accessFlags := 2, slot := 7, constantValue := 0 }, { name := "strongSums", type := (.array .int), accessFlags := 2, slot := 8, constantValue := 0 }, { name := "heads", type := (.array .int), accessFlags := 2, slot := 9, constantValue := 0 }, { name := "nextInChain", type := (.array .int), accessFlags := 2, slot := 10, constantValue := 0 }, { name := "deltaPresent", type := .boolean, accessFlags := 2, slot := 11, constantValue := 0 }, { name := "opKinds", type := (.array .int), accessFlags := 2, slot := 12, constantValue := 0 }, { name := "opValues", type := (.array .int), accessFlags := 2, slot := 13, constantValue := 0 }, { name := "opCount", type := .int, accessFlags := 2, slot := 14, constantValue := 0 }, { name := "litBytes", type := (.array .int), accessFlags := 2, slot := 15, constantValue := 0 }, { name := "litLen", type := .int, accessFlags := 2, slot := 16, constantValue := 0 }, { name := "outPresent", type := .boolean, accessFlags := 2, slot := 17, constantValue := 0 }, { name := "outBytes", type := (.array .int), accessFlags := 2, slot := 18, constantValue := 0 }, { name := "outLen", type := .int, accessFlags := 2, slot := 19, constantValue := 0 }, { name := "winA", type := .int, accessFlags := 2, slot := 20, constantValue := 0 }, { name := "winS", type := .int, accessFlags := 2, slot := 21, constantValue := 0 }]
  methods := #[k2m0, k2m1, k2m2, k2m3, k2m4, k2m5, k2m6, k2m7, k2m8, k2m9, k2m10, k2m11, k2m12, k2m13, k2m14, k2m15, k2m16, k2m17, k2m18, k2m19, k2m20, k2m21, k2m22, k2m23, k2m24, k2m25, k2m26]
  instanceTypes := #[.int, (.array .int), .int, (.array .int), .int, .boolean, .int, (.array .int), (.array .int), (.array .int), (.array .int), .boolean, (.array .int), (.array .int), .int, (.array .int), .int, .boolean, (.array .int), .int, .int, .int]
  staticTypes := #[.int, .int, .int, .int, .int, .int, .int, .int]
  resolved := Array.replicate 182 none
  statics := none }

def pool3 : Array CpInfo := pool [(1, u "java/lang/Cloneable"), (0, .class_ 1), (0, u "java/lang/Object"), (0, .class_ 3)] 3

/-- java/lang/Cloneable -/
def k3 : Class := { plain "java/lang/Cloneable" (some 0) with
  accessFlags := 1537
  interfaces := #[]
  cf := some (fileOf pool3 2 #[] #[] 1537 4 #[] #[])
  fields := #[]
  methods := #[]
  instanceTypes := #[]
  staticTypes := #[]
  resolved := Array.replicate 8 none
  statics := none }

def pool4 : Array CpInfo := pool [(1, u "java/io/Serializable"), (0, .class_ 1), (0, u "java/lang/Object"), (0, .class_ 3)] 3

/-- java/io/Serializable -/
def k4 : Class := { plain "java/io/Serializable" (some 0) with
  accessFlags := 1537
  interfaces := #[]
  cf := some (fileOf pool4 2 #[] #[] 1537 4 #[] #[])
  fields := #[]
  methods := #[]
  instanceTypes := #[]
  staticTypes := #[]
  resolved := Array.replicate 8 none
  statics := none }

/-- the primitive byte -/
def k5 : Class := { plain "byte" none with kind := .primitive 'B', accessFlags := 0x411 }
/-- [B -/
def k6 : Class := { plain "[B" (some 0) with kind := .array 5 .byte, interfaces := #[3, 4], accessFlags := 1041 }

/-- the primitive int -/
def k7 : Class := { plain "int" none with kind := .primitive 'I', accessFlags := 0x411 }
/-- [I -/
def k8 : Class := { plain "[I" (some 0) with kind := .array 7 .int, interfaces := #[3, 4], accessFlags := 1041 }

def heap : Heap := #[]
def classes : Array Class := #[k0, k1, k2, k3, k4, k5, k6, k7, k8]
def interned : List (Array UInt16 × Addr) := []
def slotsUsed : Nat := 0
def theMethod : MethodId := ⟨1, 1⟩
def args0 : Array Value := #[.int 5, .int 5, .int 5, .int 5, .int 5]
def aboutOver (below : List Frame) : State where
  vm := { classes := classes, interned := interned.toArray }
  heap := heap
  slotsUsed := slotsUsed
  threads := #[{ frames := .invoking theMethod args0 :: below }]
def below0 : List Frame := [.native { method := ⟨0, 0⟩, args := #[] }]
def about1 : State := aboutOver below0
def p0 : Program := .bare "" "" ""
def e0 : Env := launch0.env 0 0 0
theorem w_frames : about1.frames = Frame.invoking theMethod args0 :: below0 := rfl
set_option maxRecDepth 65536 in
theorem w_args : argsFit about1.vm theMethod args0 = true := by decide +kernel
set_option maxRecDepth 65536 in
theorem w_heap : heapFits about1 = true := by decide +kernel
set_option maxRecDepth 65536 in
theorem w_runnable : about1.curStatus? = some .runnable := by decide +kernel
set_option maxRecDepth 65536 in
theorem w_alone : about1.alone = true := by decide +kernel
set_option maxRecDepth 65536 in
theorem w_named : about1.methodNamed? x = some theMethod := by decide +kernel
set_option maxRecDepth 65536 in
theorem w_hears : about1.hears theMethod below0 = true := by decide +kernel
set_option maxRecDepth 65536 in
theorem w_ripe : about1.ripe theMethod args0 below0 = true := by decide +kernel
theorem w_running : about1.status = .running := rfl
set_option maxRecDepth 65536 in
theorem w_room : about1.hasRoom e0.platform room_1 = true :=
  launch0.hasRoom_least _ room_1 (by decide +kernel) (by decide +kernel) (by decide +kernel) (by decide +kernel) (by decide +kernel) (by decide +kernel)
theorem allAtoms_all (ts : List Jvm.Cond) (a : Array Jvm.Value) (st : Jvm.State) : (allAtoms ts).before a st = ts.all (fun c => c.before a st) := by
  induction ts with
  | nil => rfl
  | cons c t ih =>
    show (Jvm.Cond.and c (allAtoms t)).before a st = _
    rw [Jvm.Cond.before_and, ih, List.all_cons]
def words1 : List Jvm.Cond := Jvm.Cond.code x code maxLocals ret :: tables_1
/-- a 'code' word, met by the world's own term for the bytes: nothing is compared byte by byte -/
theorem code_word {y : MethodName} {bytes : ByteArray} {mx : Nat} {rt : Option FieldType} {a : Array Value} {s : State} {m : MethodId} {meth : Method} {c : Code} (h1 : s.methodNamed? y = some m) (h2 : s.vm.method? m = some meth) (h3 : meth.code = some c) (h4 : c.code = bytes)
    (h5 : (c.maxLocals == mx && c.exceptionTable.isEmpty && decide (c.maxStack ≤ mostOperands) && decide (meth.sig.returnType = rt) && !meth.locks && decide (parseMethodDescriptor y.desc = some meth.sig)) = true) : (Jvm.Cond.code y bytes mx rt).before a s = true := by
  simp only [Bool.and_eq_true, beq_iff_eq, Bool.not_eq_true', decide_eq_true_eq] at h5
  obtain ⟨⟨⟨⟨⟨g1, g2⟩, g3⟩, g4⟩, g5⟩, g6⟩ := h5
  simp [Cond.before, Cond.holds, Cond.value, h1, h2, h3, h4, g1, g2, g3, g4, g5, g6]
def isCode : Jvm.Cond → Bool
  | .code _ _ _ _ => true
  | _ => false
theorem all_split {L : List Jvm.Cond} {P : Jvm.Cond → Bool} (h1 : L.all (fun c => isCode c || P c) = true) (h2 : ∀ c ∈ L.filter isCode, P c = true) : L.all P = true := by
  refine List.all_eq_true.mpr fun c hc => ?_
  have h := List.all_eq_true.mp h1 c hc
  rcases Bool.eq_false_or_eq_true (isCode c) with hi | hi
  · exact h2 c (List.mem_filter.mpr ⟨hc, hi⟩)
  · simpa [hi] using h
set_option maxRecDepth 65536 in
theorem w_c0 : (Jvm.Cond.code x code maxLocals ret).before args0 about1 = true := code_word (m := ⟨1, 1⟩) (meth := k1m1) (c := k1c1) (by decide +kernel) rfl rfl rfl (by decide +kernel)
set_option maxRecDepth 65536 in
theorem w_c1 : (Jvm.Cond.code ({ cls := "RsyncDelta", name := "<init>", desc := "(I)V" } : Jvm.MethodName) prog_1_method_1_code (3 : Nat) (Option.none : Option Jvm.ClassFile.FieldType)).before args0 about1 = true := code_word (m := ⟨2, 0⟩) (meth := k2m0) (c := k2c0) (by decide +kernel) rfl rfl rfl (by decide +kernel)
set_option maxRecDepth 65536 in
theorem w_c2 : (Jvm.Cond.code ({ cls := "java/lang/Object", name := "<init>", desc := "()V" } : Jvm.MethodName) object_method_1_code (1 : Nat) (Option.none : Option Jvm.ClassFile.FieldType)).before args0 about1 = true := code_word (m := ⟨0, 0⟩) (meth := k0m0) (c := k0c0) (by decide +kernel) rfl rfl rfl (by decide +kernel)
set_option maxRecDepth 65536 in
theorem w_c3 : (Jvm.Cond.code ({ cls := "RsyncDelta", name := "clearDelta", desc := "()V" } : Jvm.MethodName) prog_1_method_18_code (1 : Nat) (Option.none : Option Jvm.ClassFile.FieldType)).before args0 about1 = true := code_word (m := ⟨2, 9⟩) (meth := k2m9) (c := k2c9) (by decide +kernel) rfl rfl rfl (by decide +kernel)
set_option maxRecDepth 65536 in
theorem w_c4 : (Jvm.Cond.code ({ cls := "RsyncDelta", name := "clearOutput", desc := "()V" } : Jvm.MethodName) prog_1_method_19_code (1 : Nat) (Option.none : Option Jvm.ClassFile.FieldType)).before args0 about1 = true := code_word (m := ⟨2, 10⟩) (meth := k2m10) (c := k2c10) (by decide +kernel) rfl rfl rfl (by decide +kernel)
set_option maxRecDepth 65536 in
theorem w_c5 : (Jvm.Cond.code ({ cls := "RsyncDelta", name := "appendOld", desc := "(I)Z" } : Jvm.MethodName) prog_1_method_3_code (2 : Nat) (Option.some Jvm.ClassFile.FieldType.boolean)).before args0 about1 = true := code_word (m := ⟨2, 1⟩) (meth := k2m1) (c := k2c1) (by decide +kernel) rfl rfl rfl (by decide +kernel)
set_option maxRecDepth 65536 in
theorem w_c6 : (Jvm.Cond.code ({ cls := "RsyncDelta", name := "sign", desc := "()I" } : Jvm.MethodName) prog_1_method_5_code (2 : Nat) (Option.some Jvm.ClassFile.FieldType.int)).before args0 about1 = true := code_word (m := ⟨2, 3⟩) (meth := k2m3) (c := k2c3) (by decide +kernel) rfl rfl rfl (by decide +kernel)
set_option maxRecDepth 65536 in
theorem w_c7 : (Jvm.Cond.code ({ cls := "RsyncDelta", name := "computeBlockSums", desc := "(I)V" } : Jvm.MethodName) prog_1_method_23_code (10 : Nat) (Option.none : Option Jvm.ClassFile.FieldType)).before args0 about1 = true := code_word (m := ⟨2, 13⟩) (meth := k2m13) (c := k2c13) (by decide +kernel) rfl rfl rfl (by decide +kernel)
set_option maxRecDepth 65536 in
theorem w_c8 : (Jvm.Cond.code ({ cls := "RsyncDelta", name := "blockLen", desc := "(I)I" } : Jvm.MethodName) prog_1_method_22_code (4 : Nat) (Option.some Jvm.ClassFile.FieldType.int)).before args0 about1 = true := code_word (m := ⟨2, 12⟩) (meth := k2m12) (c := k2c12) (by decide +kernel) rfl rfl rfl (by decide +kernel)
set_option maxRecDepth 65536 in
theorem w_c9 : (Jvm.Cond.code ({ cls := "RsyncDelta", name := "buildTable", desc := "()V" } : Jvm.MethodName) prog_1_method_25_code (4 : Nat) (Option.none : Option Jvm.ClassFile.FieldType)).before args0 about1 = true := code_word (m := ⟨2, 15⟩) (meth := k2m15) (c := k2c15) (by decide +kernel) rfl rfl rfl (by decide +kernel)
set_option maxRecDepth 65536 in
theorem w_c10 : (Jvm.Cond.code ({ cls := "RsyncDelta", name := "bucketOf", desc := "(II)I" } : Jvm.MethodName) prog_1_method_24_code (3 : Nat) (Option.some Jvm.ClassFile.FieldType.int)).before args0 about1 = true := code_word (m := ⟨2, 14⟩) (meth := k2m14) (c := k2c14) (by decide +kernel) rfl rfl rfl (by decide +kernel)
set_option maxRecDepth 65536 in
theorem w_c11 : (Jvm.Cond.code ({ cls := "RsyncDelta", name := "appendNew", desc := "(I)Z" } : Jvm.MethodName) prog_1_method_4_code (2 : Nat) (Option.some Jvm.ClassFile.FieldType.boolean)).before args0 about1 = true := code_word (m := ⟨2, 2⟩) (meth := k2m2) (c := k2c2) (by decide +kernel) rfl rfl rfl (by decide +kernel)
set_option maxRecDepth 65536 in
theorem w_c12 : (Jvm.Cond.code ({ cls := "RsyncDelta", name := "computeDelta", desc := "()I" } : Jvm.MethodName) prog_1_method_6_code (1 : Nat) (Option.some Jvm.ClassFile.FieldType.int)).before args0 about1 = true := code_word (m := ⟨2, 4⟩) (meth := k2m4) (c := k2c4) (by decide +kernel) rfl rfl rfl (by decide +kernel)
set_option maxRecDepth 65536 in
theorem w_c13 : (Jvm.Cond.code ({ cls := "RsyncDelta", name := "scanNew", desc := "()V" } : Jvm.MethodName) prog_1_method_34_code (8 : Nat) (Option.none : Option Jvm.ClassFile.FieldType)).before args0 about1 = true := code_word (m := ⟨2, 24⟩) (meth := k2m24) (c := k2c24) (by decide +kernel) rfl rfl rfl (by decide +kernel)
set_option maxRecDepth 65536 in
theorem w_c14 : (Jvm.Cond.code ({ cls := "RsyncDelta", name := "windowSums", desc := "(II)V" } : Jvm.MethodName) prog_1_method_26_code (7 : Nat) (Option.none : Option Jvm.ClassFile.FieldType)).before args0 about1 = true := code_word (m := ⟨2, 16⟩) (meth := k2m16) (c := k2c16) (by decide +kernel) rfl rfl rfl (by decide +kernel)
set_option maxRecDepth 65536 in
theorem w_c15 : (Jvm.Cond.code ({ cls := "RsyncDelta", name := "findFullMatch", desc := "(I)I" } : Jvm.MethodName) prog_1_method_30_code (7 : Nat) (Option.some Jvm.ClassFile.FieldType.int)).before args0 about1 = true := code_word (m := ⟨2, 20⟩) (meth := k2m20) (c := k2c20) (by decide +kernel) rfl rfl rfl (by decide +kernel)
set_option maxRecDepth 65536 in
theorem w_c16 : (Jvm.Cond.code ({ cls := "RsyncDelta", name := "windowStrong", desc := "(II)I" } : Jvm.MethodName) prog_1_method_27_code (6 : Nat) (Option.some Jvm.ClassFile.FieldType.int)).before args0 about1 = true := code_word (m := ⟨2, 17⟩) (meth := k2m17) (c := k2c17) (by decide +kernel) rfl rfl rfl (by decide +kernel)
set_option maxRecDepth 65536 in
theorem w_c17 : (Jvm.Cond.code ({ cls := "RsyncDelta", name := "sameBytes", desc := "(III)Z" } : Jvm.MethodName) prog_1_method_29_code (8 : Nat) (Option.some Jvm.ClassFile.FieldType.boolean)).before args0 about1 = true := code_word (m := ⟨2, 19⟩) (meth := k2m19) (c := k2c19) (by decide +kernel) rfl rfl rfl (by decide +kernel)
set_option maxRecDepth 65536 in
theorem w_c18 : (Jvm.Cond.code ({ cls := "RsyncDelta", name := "emitOp", desc := "(II)V" } : Jvm.MethodName) prog_1_method_32_code (3 : Nat) (Option.none : Option Jvm.ClassFile.FieldType)).before args0 about1 = true := code_word (m := ⟨2, 22⟩) (meth := k2m22) (c := k2c22) (by decide +kernel) rfl rfl rfl (by decide +kernel)
set_option maxRecDepth 65536 in
theorem w_c19 : (Jvm.Cond.code ({ cls := "RsyncDelta", name := "keepLiteral", desc := "(I)V" } : Jvm.MethodName) prog_1_method_33_code (2 : Nat) (Option.none : Option Jvm.ClassFile.FieldType)).before args0 about1 = true := code_word (m := ⟨2, 23⟩) (meth := k2m23) (c := k2c23) (by decide +kernel) rfl rfl rfl (by decide +kernel)
set_option maxRecDepth 65536 in
theorem w_c20 : (Jvm.Cond.code ({ cls := "RsyncDelta", name := "rollWindow", desc := "(I)V" } : Jvm.MethodName) prog_1_method_28_code (5 : Nat) (Option.none : Option Jvm.ClassFile.FieldType)).before args0 about1 = true := code_word (m := ⟨2, 18⟩) (meth := k2m18) (c := k2c18) (by decide +kernel) rfl rfl rfl (by decide +kernel)
set_option maxRecDepth 65536 in
theorem w_c21 : (Jvm.Cond.code ({ cls := "RsyncDelta", name := "getOpKind", desc := "(I)I" } : Jvm.MethodName) prog_1_method_14_code (2 : Nat) (Option.some Jvm.ClassFile.FieldType.int)).before args0 about1 = true := code_word (m := ⟨2, 6⟩) (meth := k2m6) (c := k2c6) (by decide +kernel) rfl rfl rfl (by decide +kernel)
set_option maxRecDepth 65536 in
theorem w_c22 : (Jvm.Cond.code ({ cls := "RsyncDelta", name := "validOp", desc := "(I)Z" } : Jvm.MethodName) prog_1_method_21_code (2 : Nat) (Option.some Jvm.ClassFile.FieldType.boolean)).before args0 about1 = true := code_word (m := ⟨2, 11⟩) (meth := k2m11) (c := k2c11) (by decide +kernel) rfl rfl rfl (by decide +kernel)
set_option maxRecDepth 65536 in
theorem w_c23 : (Jvm.Cond.code ({ cls := "RsyncDelta", name := "getOpValue", desc := "(I)I" } : Jvm.MethodName) prog_1_method_15_code (2 : Nat) (Option.some Jvm.ClassFile.FieldType.int)).before args0 about1 = true := code_word (m := ⟨2, 7⟩) (meth := k2m7) (c := k2c7) (by decide +kernel) rfl rfl rfl (by decide +kernel)
set_option maxRecDepth 65536 in
theorem w_c24 : (Jvm.Cond.code ({ cls := "RsyncDelta", name := "patch", desc := "()I" } : Jvm.MethodName) prog_1_method_7_code (3 : Nat) (Option.some Jvm.ClassFile.FieldType.int)).before args0 about1 = true := code_word (m := ⟨2, 5⟩) (meth := k2m5) (c := k2c5) (by decide +kernel) rfl rfl rfl (by decide +kernel)
set_option maxRecDepth 65536 in
theorem w_c25 : (Jvm.Cond.code ({ cls := "RsyncDelta", name := "copyBlockOut", desc := "(I)V" } : Jvm.MethodName) prog_1_method_35_code (6 : Nat) (Option.none : Option Jvm.ClassFile.FieldType)).before args0 about1 = true := code_word (m := ⟨2, 25⟩) (meth := k2m25) (c := k2c25) (by decide +kernel) rfl rfl rfl (by decide +kernel)
set_option maxRecDepth 65536 in
theorem w_c26 : (Jvm.Cond.code ({ cls := "RsyncDelta", name := "copyLiteralsOut", desc := "(II)I" } : Jvm.MethodName) prog_1_method_36_code (5 : Nat) (Option.some Jvm.ClassFile.FieldType.int)).before args0 about1 = true := code_word (m := ⟨2, 26⟩) (meth := k2m26) (c := k2c26) (by decide +kernel) rfl rfl rfl (by decide +kernel)
set_option maxRecDepth 65536 in
theorem w_c27 : (Jvm.Cond.code ({ cls := "RsyncDelta", name := "getOutByte", desc := "(I)I" } : Jvm.MethodName) prog_1_method_17_code (2 : Nat) (Option.some Jvm.ClassFile.FieldType.int)).before args0 about1 = true := code_word (m := ⟨2, 8⟩) (meth := k2m8) (c := k2c8) (by decide +kernel) rfl rfl rfl (by decide +kernel)
set_option maxRecDepth 65536 in
theorem w_c28 : (Jvm.Cond.code ({ cls := "RsyncDelta", name := "findTailMatch", desc := "(II)I" } : Jvm.MethodName) prog_1_method_31_code (4 : Nat) (Option.some Jvm.ClassFile.FieldType.int)).before args0 about1 = true := code_word (m := ⟨2, 21⟩) (meth := k2m21) (c := k2c21) (by decide +kernel) rfl rfl rfl (by decide +kernel)
def codes1 : List Jvm.Cond := [Jvm.Cond.code x code maxLocals ret, Jvm.Cond.code ({ cls := "RsyncDelta", name := "<init>", desc := "(I)V" } : Jvm.MethodName) prog_1_method_1_code (3 : Nat) (Option.none : Option Jvm.ClassFile.FieldType), Jvm.Cond.code ({ cls := "java/lang/Object", name := "<init>", desc := "()V" } : Jvm.MethodName) object_method_1_code (1 : Nat) (Option.none : Option Jvm.ClassFile.FieldType), Jvm.Cond.code ({ cls := "RsyncDelta", name := "clearDelta", desc := "()V" } : Jvm.MethodName) prog_1_method_18_code (1 : Nat) (Option.none : Option Jvm.ClassFile.FieldType), Jvm.Cond.code ({ cls := "RsyncDelta", name := "clearOutput", desc := "()V" } : Jvm.MethodName) prog_1_method_19_code (1 : Nat) (Option.none : Option Jvm.ClassFile.FieldType), Jvm.Cond.code ({ cls := "RsyncDelta", name := "appendOld", desc := "(I)Z" } : Jvm.MethodName) prog_1_method_3_code (2 : Nat) (Option.some Jvm.ClassFile.FieldType.boolean), Jvm.Cond.code ({ cls := "RsyncDelta", name := "sign", desc := "()I" } : Jvm.MethodName) prog_1_method_5_code (2 : Nat) (Option.some Jvm.ClassFile.FieldType.int), Jvm.Cond.code ({ cls := "RsyncDelta", name := "computeBlockSums", desc := "(I)V" } : Jvm.MethodName) prog_1_method_23_code (10 : Nat) (Option.none : Option Jvm.ClassFile.FieldType), Jvm.Cond.code ({ cls := "RsyncDelta", name := "blockLen", desc := "(I)I" } : Jvm.MethodName) prog_1_method_22_code (4 : Nat) (Option.some Jvm.ClassFile.FieldType.int), Jvm.Cond.code ({ cls := "RsyncDelta", name := "buildTable", desc := "()V" } : Jvm.MethodName) prog_1_method_25_code (4 : Nat) (Option.none : Option Jvm.ClassFile.FieldType), Jvm.Cond.code ({ cls := "RsyncDelta", name := "bucketOf", desc := "(II)I" } : Jvm.MethodName) prog_1_method_24_code (3 : Nat) (Option.some Jvm.ClassFile.FieldType.int), Jvm.Cond.code ({ cls := "RsyncDelta", name := "appendNew", desc := "(I)Z" } : Jvm.MethodName) prog_1_method_4_code (2 : Nat) (Option.some Jvm.ClassFile.FieldType.boolean), Jvm.Cond.code ({ cls := "RsyncDelta", name := "computeDelta", desc := "()I" } : Jvm.MethodName) prog_1_method_6_code (1 : Nat) (Option.some Jvm.ClassFile.FieldType.int), Jvm.Cond.code ({ cls := "RsyncDelta", name := "scanNew", desc := "()V" } : Jvm.MethodName) prog_1_method_34_code (8 : Nat) (Option.none : Option Jvm.ClassFile.FieldType), Jvm.Cond.code ({ cls := "RsyncDelta", name := "windowSums", desc := "(II)V" } : Jvm.MethodName) prog_1_method_26_code (7 : Nat) (Option.none : Option Jvm.ClassFile.FieldType), Jvm.Cond.code ({ cls := "RsyncDelta", name := "findFullMatch", desc := "(I)I" } : Jvm.MethodName) prog_1_method_30_code (7 : Nat) (Option.some Jvm.ClassFile.FieldType.int), Jvm.Cond.code ({ cls := "RsyncDelta", name := "windowStrong", desc := "(II)I" } : Jvm.MethodName) prog_1_method_27_code (6 : Nat) (Option.some Jvm.ClassFile.FieldType.int), Jvm.Cond.code ({ cls := "RsyncDelta", name := "sameBytes", desc := "(III)Z" } : Jvm.MethodName) prog_1_method_29_code (8 : Nat) (Option.some Jvm.ClassFile.FieldType.boolean), Jvm.Cond.code ({ cls := "RsyncDelta", name := "emitOp", desc := "(II)V" } : Jvm.MethodName) prog_1_method_32_code (3 : Nat) (Option.none : Option Jvm.ClassFile.FieldType), Jvm.Cond.code ({ cls := "RsyncDelta", name := "keepLiteral", desc := "(I)V" } : Jvm.MethodName) prog_1_method_33_code (2 : Nat) (Option.none : Option Jvm.ClassFile.FieldType), Jvm.Cond.code ({ cls := "RsyncDelta", name := "rollWindow", desc := "(I)V" } : Jvm.MethodName) prog_1_method_28_code (5 : Nat) (Option.none : Option Jvm.ClassFile.FieldType), Jvm.Cond.code ({ cls := "RsyncDelta", name := "getOpKind", desc := "(I)I" } : Jvm.MethodName) prog_1_method_14_code (2 : Nat) (Option.some Jvm.ClassFile.FieldType.int), Jvm.Cond.code ({ cls := "RsyncDelta", name := "validOp", desc := "(I)Z" } : Jvm.MethodName) prog_1_method_21_code (2 : Nat) (Option.some Jvm.ClassFile.FieldType.boolean), Jvm.Cond.code ({ cls := "RsyncDelta", name := "getOpValue", desc := "(I)I" } : Jvm.MethodName) prog_1_method_15_code (2 : Nat) (Option.some Jvm.ClassFile.FieldType.int), Jvm.Cond.code ({ cls := "RsyncDelta", name := "patch", desc := "()I" } : Jvm.MethodName) prog_1_method_7_code (3 : Nat) (Option.some Jvm.ClassFile.FieldType.int), Jvm.Cond.code ({ cls := "RsyncDelta", name := "copyBlockOut", desc := "(I)V" } : Jvm.MethodName) prog_1_method_35_code (6 : Nat) (Option.none : Option Jvm.ClassFile.FieldType), Jvm.Cond.code ({ cls := "RsyncDelta", name := "copyLiteralsOut", desc := "(II)I" } : Jvm.MethodName) prog_1_method_36_code (5 : Nat) (Option.some Jvm.ClassFile.FieldType.int), Jvm.Cond.code ({ cls := "RsyncDelta", name := "getOutByte", desc := "(I)I" } : Jvm.MethodName) prog_1_method_17_code (2 : Nat) (Option.some Jvm.ClassFile.FieldType.int), Jvm.Cond.code ({ cls := "RsyncDelta", name := "findTailMatch", desc := "(II)I" } : Jvm.MethodName) prog_1_method_31_code (4 : Nat) (Option.some Jvm.ClassFile.FieldType.int)]
set_option maxRecDepth 65536 in
theorem codes_eq : words1.filter isCode = codes1 := rfl
theorem w_codes : ∀ c ∈ words1.filter isCode, c.before args0 about1 = true := by
  rw [codes_eq]
  intro c hc
  simp only [codes1, List.mem_cons, List.not_mem_nil, or_false] at hc
  rcases hc with rfl | rfl | rfl | rfl | rfl | rfl | rfl | rfl | rfl | rfl | rfl | rfl | rfl | rfl | rfl | rfl | rfl | rfl | rfl | rfl | rfl | rfl | rfl | rfl | rfl | rfl | rfl | rfl | rfl
  · exact w_c0
  · exact w_c1
  · exact w_c2
  · exact w_c3
  · exact w_c4
  · exact w_c5
  · exact w_c6
  · exact w_c7
  · exact w_c8
  · exact w_c9
  · exact w_c10
  · exact w_c11
  · exact w_c12
  · exact w_c13
  · exact w_c14
  · exact w_c15
  · exact w_c16
  · exact w_c17
  · exact w_c18
  · exact w_c19
  · exact w_c20
  · exact w_c21
  · exact w_c22
  · exact w_c23
  · exact w_c24
  · exact w_c25
  · exact w_c26
  · exact w_c27
  · exact w_c28
set_option maxRecDepth 65536 in
theorem w_t1 : (words1.take 24).all (fun c => isCode c || c.before args0 about1) = true := by decide +kernel
set_option maxRecDepth 65536 in
theorem w_t2 : ((words1.drop 24).take 24).all (fun c => isCode c || c.before args0 about1) = true := by decide +kernel
set_option maxRecDepth 65536 in
theorem w_t3 : (((words1.drop 24).drop 24).take 24).all (fun c => isCode c || c.before args0 about1) = true := by decide +kernel
set_option maxRecDepth 65536 in
theorem w_t4 : ((((words1.drop 24).drop 24).drop 24).take 24).all (fun c => isCode c || c.before args0 about1) = true := by decide +kernel
set_option maxRecDepth 65536 in
theorem w_t5 : (((((words1.drop 24).drop 24).drop 24).drop 24).take 24).all (fun c => isCode c || c.before args0 about1) = true := by decide +kernel
set_option maxRecDepth 65536 in
theorem w_t6 : ((((((words1.drop 24).drop 24).drop 24).drop 24).drop 24).take 24).all (fun c => isCode c || c.before args0 about1) = true := by decide +kernel
set_option maxRecDepth 65536 in
theorem w_t7 : (((((((words1.drop 24).drop 24).drop 24).drop 24).drop 24).drop 24).take 24).all (fun c => isCode c || c.before args0 about1) = true := by decide +kernel
set_option maxRecDepth 65536 in
theorem w_t8 : (((((((words1.drop 24).drop 24).drop 24).drop 24).drop 24).drop 24).drop 24).all (fun c => isCode c || c.before args0 about1) = true := by decide +kernel
theorem w_tables : (allAtoms (Jvm.Cond.code x code maxLocals ret :: tables_1)).before args0 about1 = true := by
  rw [allAtoms_all]
  show words1.all (fun c => c.before args0 about1) = true
  refine all_split ?_ w_codes
  rw [← List.take_append_drop 24 words1, List.all_append, w_t1, ← List.take_append_drop 24 (words1.drop 24), List.all_append, w_t2, ← List.take_append_drop 24 ((words1.drop 24).drop 24), List.all_append, w_t3, ← List.take_append_drop 24 (((words1.drop 24).drop 24).drop 24), List.all_append, w_t4, ← List.take_append_drop 24 ((((words1.drop 24).drop 24).drop 24).drop 24), List.all_append, w_t5, ← List.take_append_drop 24 (((((words1.drop 24).drop 24).drop 24).drop 24).drop 24), List.all_append, w_t6, ← List.take_append_drop 24 ((((((words1.drop 24).drop 24).drop 24).drop 24).drop 24).drop 24), List.all_append, w_t7, w_t8]
  rfl
set_option maxRecDepth 65536 in
theorem w_case : (Jvm.Cond.and given_1 narrow_1).before args0 about1 = true := by decide +kernel
theorem w_applies : (headSpec (Jvm.Cond.code x code maxLocals ret :: tables_1) room_1).applies x e0.platform about1 = true :=
  (Spec.applies_iff w_frames).mpr ⟨w_running, w_runnable, w_alone, w_named, w_hears, w_ripe, w_room, w_tables⟩
theorem atStart : AtStart classFile x code maxLocals ret World_1 tables_1 room_1 Calls_1 rest_1 Pre_1 launch0 p0 e0 about1 theMethod args0 below0 :=
  ⟨lists_1, trivial, launch0.admits_env _ _ _, launch0.least_env, fairChoices_fair.cas, fairChoices_fair.clock, w_frames, w_args, w_heap, w_applies, trivial, trivial, w_case⟩
end start1
theorem witness_1 : WitnessClaimed_1 := ⟨start1.p0, start1.e0, start1.about1, start1.theMethod, start1.args0, start1.below0, start1.atStart⟩
end Jvm.Pilot.@@N@@
