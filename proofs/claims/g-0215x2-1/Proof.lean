import JvmDerived
import JvmDerived.Pilot.@@N@@Statement
import JvmDerived.Pilot.@@N@@Code
set_option linter.unusedVariables false
set_option linter.unusedSimpArgs false
@@BLOCK:NumsL.lean.txt@@
namespace Jvm.LM
open Sem ClassFile Op Lib Jvm.Stand Jvm.Free Jvm.LawKit Jvm.RoadKit
/-! A small machine over plain data that mirrors the bytecode of one class and of a law over it. -/
abbrev Lv := List (Option Value)
abbrev St := (Nat → Nat → Int32) × (Nat → Nat → Int64)
abbrev Cd := List (Nat × Instr × Nat)
/-- name, descriptor, kind (0 int, 1 boolean, 2 long, 3+j the j-th array), final -/
abbrev Fe := String × String × Nat × Bool
/-- name, descriptor, number of arguments, return kind (0 none, 1 int, 2 boolean, 3 long), code, max_locals, room: frames, locals -/
abbrev Me := String × String × Nat × Nat × Cd × Nat × Nat × Nat
/-- class name, fields, arrays (kind, length), pool to field, pool to method, pool to constant, methods, pool index of Object's constructor -/
abbrev Cl := String × List (Nat × Fe) × List (Nat × Nat) × List (Nat × Nat) × List (Nat × Nat) × List (Nat × Value) × List (Nat × Me) × Nat
def Me.nm (m : Me) : String := m.1
def Me.ds (m : Me) : String := m.2.1
def Me.na (m : Me) : Nat := m.2.2.1
def Me.rt (m : Me) : Nat := m.2.2.2.1
def Me.cd (m : Me) : Cd := m.2.2.2.2.1
def Me.ml (m : Me) : Nat := m.2.2.2.2.2.1
def Me.rf (m : Me) : Nat := m.2.2.2.2.2.2.1
def Me.rl (m : Me) : Nat := m.2.2.2.2.2.2.2
def Cl.nm (P : Cl) : String := P.1
def Cl.fs (P : Cl) : List (Nat × Fe) := P.2.1
def Cl.al (P : Cl) : List (Nat × Nat) := P.2.2.1
def Cl.fx (P : Cl) : List (Nat × Nat) := P.2.2.2.1
def Cl.mx (P : Cl) : List (Nat × Nat) := P.2.2.2.2.1
def Cl.kx (P : Cl) : List (Nat × Value) := P.2.2.2.2.2.1
def Cl.ms (P : Cl) : List (Nat × Me) := P.2.2.2.2.2.2.1
def Cl.oi (P : Cl) : Nat := P.2.2.2.2.2.2.2
def gI (s : St) (c j : Nat) : Int32 := s.1 c j
def gL (s : St) (c j : Nat) : Int64 := s.2 c j
def sI (s : St) (c j : Nat) (v : Int32) : St := (fun a b => if a = c ∧ b = j then v else s.1 a b, s.2)
def sL (s : St) (c j : Nat) (v : Int64) : St := (s.1, fun a b => if a = c ∧ b = j then v else s.2 a b)
def s0 : St := (fun _ _ => 0, fun _ _ => 0)
def ix (i : Int32) : Nat := i.toNatClampNeg
abbrev inb (n : Nat) (i : Int32) : Prop := 0 ≤ i.toInt ∧ i.toInt < (n : Int)
def asc {α : Type} : List (Nat × α) → Nat → Option α
  | [], _ => none
  | (a, b) :: r, k => match Nat.beq a k with
    | true => some b
    | false => asc r k
def fetch : Cd → Nat → Option (Instr × Nat)
  | [], _ => none
  | (a, b) :: r, k => match Nat.beq a k with
    | true => some b
    | false => fetch r k
def ilen : Instr → Nat
  | .iload _ => 2 | .lload _ => 2 | .aload _ => 2 | .istore _ => 2 | .lstore _ => 2 | .astore _ => 2 | .bipush _ => 2 | .ldc _ => 2 | .newarray _ => 2
  | .sipush _ => 3 | .iinc _ _ => 3 | .goto _ => 3 | .ifCond _ _ => 3 | .if_icmp _ _ => 3 | .getfield _ => 3 | .putfield _ => 3
  | .invokevirtual _ => 3 | .invokespecial _ => 3 | .invokestatic _ => 3 | .new _ => 3 | .ldc2_w _ => 3
  | _ => 1
def isSw : Instr → Bool
  | .tableswitch _ _ _ _ => true
  | _ => false
def clr (ls : Lv) : Nat → Lv
  | 0 => ls
  | j + 1 => match ls[j]? with
    | some (some (.long _)) => ls.set j none
    | some (some (.double _)) => ls.set j none
    | _ => ls
/-- a store into the local variables: a long takes two -/
def stl (ls : Lv) (i : Nat) (v : Value) : Option Lv :=
  match v with
  | .long x => if i + 1 < ls.length then some (((clr ls i).set i (some (.long x))).set (i + 1) none) else none
  | w => if i < ls.length then some ((clr ls i).set i (some w)) else none
def br (cd : ClassFile.Cond) (x y : Int32) (a b : Nat) : Nat :=
  match cd with
  | .eq => if x = y then a else b
  | .ne => if x = y then b else a
  | .lt => if x < y then a else b
  | .ge => if x < y then b else a
  | .gt => if y < x then a else b
  | .le => if y < x then b else a
def jmp (pc : Nat) (o : Int) : Nat := ((pc : Int) + o).toNat
def qstep (i : Instr) (pc : Nat) (st : List Value) : Option (Nat × List Value) :=
  match i with
  | .iconst v => some (pc + 1, .int (Int32.ofInt v) :: st)
  | .bipush v => some (pc + 2, .int (Int8.ofInt v).toInt32 :: st)
  | .sipush v => some (pc + 3, .int (Int16.ofInt v).toInt32 :: st)
  | .lconst k => some (pc + 1, .long (Int64.ofNat k) :: st)
  | .iadd => match st with | .int y :: .int x :: r => some (pc + 1, .int (x + y) :: r) | _ => none
  | .isub => match st with | .int y :: .int x :: r => some (pc + 1, .int (x - y) :: r) | _ => none
  | .imul => match st with | .int y :: .int x :: r => some (pc + 1, .int (x * y) :: r) | _ => none
  | .iand => match st with | .int y :: .int x :: r => some (pc + 1, .int (x &&& y) :: r) | _ => none
  | .ior => match st with | .int y :: .int x :: r => some (pc + 1, .int (x ||| y) :: r) | _ => none
  | .ixor => match st with | .int y :: .int x :: r => some (pc + 1, .int (x ^^^ y) :: r) | _ => none
  | .ishl => match st with | .int y :: .int x :: r => some (pc + 1, .int (x <<< (y &&& 31)) :: r) | _ => none
  | .ishr => match st with | .int y :: .int x :: r => some (pc + 1, .int (x >>> (y &&& 31)) :: r) | _ => none
  | .iushr => match st with | .int y :: .int x :: r => some (pc + 1, .int (XT.ushr x y) :: r) | _ => none
  | .idiv => match st with | .int y :: .int x :: r => if y = 0 then none else some (pc + 1, .int (x / y) :: r) | _ => none
  | .irem => match st with | .int y :: .int x :: r => if y = 0 then none else some (pc + 1, .int (x % y) :: r) | _ => none
  | .ineg => match st with | .int x :: r => some (pc + 1, .int (-x) :: r) | _ => none
  | .ladd => match st with | .long y :: .long x :: r => some (pc + 1, .long (x + y) :: r) | _ => none
  | .lsub => match st with | .long y :: .long x :: r => some (pc + 1, .long (x - y) :: r) | _ => none
  | .lmul => match st with | .long y :: .long x :: r => some (pc + 1, .long (x * y) :: r) | _ => none
  | .land => match st with | .long y :: .long x :: r => some (pc + 1, .long (x &&& y) :: r) | _ => none
  | .lor => match st with | .long y :: .long x :: r => some (pc + 1, .long (x ||| y) :: r) | _ => none
  | .lxor => match st with | .long y :: .long x :: r => some (pc + 1, .long (x ^^^ y) :: r) | _ => none
  | .lshl => match st with | .int y :: .long x :: r => some (pc + 1, .long (x <<< (y.toInt64 &&& 63)) :: r) | _ => none
  | .lshr => match st with | .int y :: .long x :: r => some (pc + 1, .long (x >>> (y.toInt64 &&& 63)) :: r) | _ => none
  | .lushr => match st with | .int y :: .long x :: r => some (pc + 1, .long (XT.ushrL x y) :: r) | _ => none
  | .ldiv => match st with | .long y :: .long x :: r => if y = 0 then none else some (pc + 1, .long (x / y) :: r) | _ => none
  | .lneg => match st with | .long x :: r => some (pc + 1, .long (-x) :: r) | _ => none
  | .lcmp => match st with | .long y :: .long x :: r => some (pc + 1, .int (XT.cmpL x y) :: r) | _ => none
  | .i2l => match st with | .int x :: r => some (pc + 1, .long x.toInt64 :: r) | _ => none
  | .l2i => match st with | .long x :: r => some (pc + 1, .int x.toInt32 :: r) | _ => none
  | .dup => match st with | .int x :: r => some (pc + 1, .int x :: .int x :: r) | .ref x :: r => some (pc + 1, .ref x :: .ref x :: r) | _ => none
  | .pop => match st with | .int _ :: r => some (pc + 1, r) | .ref _ :: r => some (pc + 1, r) | _ => none
  | .goto o => if 0 ≤ (pc : Int) + o then some (jmp pc o, st) else none
  | .ifCond cd o => match st with | .int x :: r => if 0 ≤ (pc : Int) + o then some (br cd x 0 (jmp pc o) (pc + 3), r) else none | _ => none
  | .if_icmp cd o => match st with | .int y :: .int x :: r => if 0 ≤ (pc : Int) + o then some (br cd x y (jmp pc o) (pc + 3), r) else none | _ => none
  | .tableswitch d lo hi offs => match st with
    | .int x :: r => if x.toInt < lo ∨ x.toInt > hi then (if 0 ≤ (pc : Int) + d then some (jmp pc d, r) else none)
      else (match offs[(x.toInt - lo).toNat]? with | some o => if 0 ≤ (pc : Int) + o then some (jmp pc o, r) else none | none => none)
    | _ => none
  | _ => none
def pstep (i : Instr) (pc : Nat) (ls : Lv) (st : List Value) : Option (Nat × Lv × List Value) :=
  match i with
  | .iload_n k => match ls[k.val]? with | some (some (.int v)) => some (pc + 1, ls, .int v :: st) | _ => none
  | .iload k => match ls[k]? with | some (some (.int v)) => some (pc + 2, ls, .int v :: st) | _ => none
  | .lload_n k => match ls[k.val]? with | some (some (.long v)) => some (pc + 1, ls, .long v :: st) | _ => none
  | .lload k => match ls[k]? with | some (some (.long v)) => some (pc + 2, ls, .long v :: st) | _ => none
  | .aload_n k => match ls[k.val]? with | some (some (.ref v)) => some (pc + 1, ls, .ref v :: st) | _ => none
  | .aload k => match ls[k]? with | some (some (.ref v)) => some (pc + 2, ls, .ref v :: st) | _ => none
  | .istore_n k => match st with | .int v :: r => (match stl ls k.val (.int v) with | some l => some (pc + 1, l, r) | none => none) | _ => none
  | .istore k => match st with | .int v :: r => (match stl ls k (.int v) with | some l => some (pc + 2, l, r) | none => none) | _ => none
  | .lstore_n k => match st with | .long v :: r => (match stl ls k.val (.long v) with | some l => some (pc + 1, l, r) | none => none) | _ => none
  | .lstore k => match st with | .long v :: r => (match stl ls k (.long v) with | some l => some (pc + 2, l, r) | none => none) | _ => none
  | .astore_n k => match st with | .ref v :: r => (match stl ls k.val (.ref v) with | some l => some (pc + 1, l, r) | none => none) | _ => none
  | .astore k => match st with | .ref v :: r => (match stl ls k (.ref v) with | some l => some (pc + 2, l, r) | none => none) | _ => none
  | .iinc k d => match ls[k]? with | some (some (.int v)) => (match stl ls k (.int (v + Int32.ofInt d)) with | some l => some (pc + 3, l, st) | none => none) | _ => none
  | i => match qstep i pc st with | some (pc', st') => some (pc', ls, st') | none => none
/-- how the machine's references stand in the heap -/
def va (ρ : Nat → Nat) : Value → Value
  | .ref c => .ref (ρ c)
  | v => v
def WF (L : Array Slot) : Prop :=
  (∀ (k : Nat) (v : Value), L[k]? = some (Slot.val v) → v.category = 2 → L[k + 1]? = some .second) ∧
  (∀ k : Nat, L[k + 1]? = some Slot.second → ∃ v : Value, L[k]? = some (Slot.val v) ∧ v.category = 2) ∧ L[0]? ≠ some Slot.second
def LR (ρ : Nat → Nat) (ls : Lv) (L : Array Slot) : Prop :=
  L.size = ls.length ∧ (∀ (k : Nat) (v : Value), ls[k]? = some (some v) → L[k]? = some (Slot.val (va ρ v))) ∧ WF L
end Jvm.LM

namespace Jvm.LM
open Sem ClassFile Op Lib Jvm.Stand Jvm.Free Jvm.LawKit Jvm.RoadKit
/-! the local variables -/
def upd (f : Nat → Option Slot) (i : Nat) (x : Slot) : Nat → Option Slot := fun k => if k = i then some x else f k
def WFf (f : Nat → Option Slot) : Prop :=
  (∀ k v, f k = some (.val v) → v.category = 2 → f (k + 1) = some .second) ∧
  (∀ k, f (k + 1) = some .second → ∃ v, f k = some (.val v) ∧ v.category = 2) ∧ f 0 ≠ some .second
def clearF (f : Nat → Option Slot) (i : Nat) : Nat → Option Slot :=
  match f i with
  | some .second => upd (upd f (i - 1) .unset) i .unset
  | some (.val old) => if old.category = 2 then upd (upd f (i + 1) .unset) i .unset else upd f i .unset
  | _ => f
theorem clearF_cases (f : Nat → Option Slot) (i : Nat) : (f i = some .second ∧ clearF f i = upd (upd f (i - 1) .unset) i .unset) ∨ (∃ old, f i = some (.val old) ∧ old.category = 2 ∧ clearF f i = upd (upd f (i + 1) .unset) i .unset) ∨
    (∃ old, f i = some (.val old) ∧ old.category ≠ 2 ∧ clearF f i = upd f i .unset) ∨ ((f i = some .unset ∨ f i = none) ∧ clearF f i = f) := by
  cases h : f i with
  | none => exact Or.inr (Or.inr (Or.inr ⟨Or.inr rfl, by simp only [clearF, h]⟩))
  | some x =>
    cases x with
    | unset => exact Or.inr (Or.inr (Or.inr ⟨Or.inl rfl, by simp only [clearF, h]⟩))
    | second => exact Or.inl ⟨rfl, by simp only [clearF, h]⟩
    | val old =>
      by_cases hc : old.category = 2
      · exact Or.inr (Or.inl ⟨old, rfl, hc, by simp only [clearF, h]; rw [if_pos hc]⟩)
      · exact Or.inr (Or.inr (Or.inl ⟨old, rfl, hc, by simp only [clearF, h]; rw [if_neg hc]⟩))
theorem wff_clear {f : Nat → Option Slot} (h : WFf f) (i : Nat) : WFf (clearF f i) := by
  obtain ⟨h1, h2, h3⟩ := h
  unfold clearF
  split
  · rename_i e
    cases i with
    | zero => exact absurd e h3
    | succ j =>
      refine ⟨fun k v hk hc => ?_, fun k hk => ?_, ?_⟩
      · simp only [upd, Nat.add_sub_cancel] at hk ⊢
        have := h1 k v
        by_cases a : k = j + 1
        · simp [a] at hk
        · by_cases b : k = j
          · simp [b] at hk
          · have c : k + 1 ≠ j + 1 := by omega
            simp only [a, b, if_false] at hk
            by_cases d : k + 1 = j
            · have := h1 k v hk hc
              obtain ⟨w, hw, hw2⟩ := h2 j e
              rw [d, hw] at this; cases this
            · simp [c, d, b, h1 k v hk hc]
      · simp only [upd, Nat.add_sub_cancel] at hk ⊢
        by_cases a : k = j
        · simp [a] at hk
        · by_cases b : k + 1 = j
          · simp [b] at hk
          · simp only [show ¬ (k + 1 = j + 1) by omega, b, if_false] at hk
            obtain ⟨w, hw, hw2⟩ := h2 k hk
            by_cases d : k = j + 1
            · rw [d, e] at hw; cases hw
            · exact ⟨w, by simp [d, a, hw], hw2⟩
      · simp only [upd, Nat.add_sub_cancel]
        by_cases b : 0 = j
        · simp [← b]
        · simp [b, h3]
  · rename_i old e
    split
    · rename_i hc2
      have e2 := h1 i old e hc2
      refine ⟨fun k v hk hc => ?_, fun k hk => ?_, ?_⟩
      · simp only [upd] at hk ⊢
        by_cases a : k = i
        · simp [a] at hk
        · by_cases b : k = i + 1
          · simp [b] at hk
          · simp only [a, b, if_false] at hk
            have q := h1 k v hk hc
            by_cases d : k + 1 = i
            · rw [d, e] at q; cases q
            · simp [d, a, show ¬ (k + 1 = i + 1) by omega, q]
      · simp only [upd] at hk ⊢
        by_cases a : k + 1 = i
        · simp [a] at hk
        · by_cases b : k = i
          · simp [b] at hk
          · simp only [a, show ¬ (k + 1 = i + 1) by omega, if_false] at hk
            obtain ⟨w, hw, hw2⟩ := h2 k hk
            by_cases d : k = i + 1
            · rw [d, e2] at hw; cases hw
            · exact ⟨w, by simp [d, b, hw], hw2⟩
      · simp only [upd]
        by_cases b : 0 = i
        · simp [← b]
        · simp [b, h3]
    · rename_i hc2
      refine ⟨fun k v hk hc => ?_, fun k hk => ?_, ?_⟩
      · simp only [upd] at hk ⊢
        by_cases a : k = i
        · simp [a] at hk
        · simp only [a, if_false] at hk
          have q := h1 k v hk hc
          by_cases d : k + 1 = i
          · rw [d, e] at q; cases q
          · simp [d, q]
      · simp only [upd] at hk ⊢
        by_cases a : k + 1 = i
        · simp [a] at hk
        · simp only [a, if_false] at hk
          obtain ⟨w, hw, hw2⟩ := h2 k hk
          by_cases d : k = i
          · rw [d, e] at hw; cases hw; exact absurd hw2 hc2
          · exact ⟨w, by simp [d, hw], hw2⟩
      · simp only [upd]
        by_cases b : 0 = i
        · simp [← b]
        · simp [b, h3]
  · exact ⟨h1, h2, h3⟩
theorem wff_one {f : Nat → Option Slot} (h : WFf f) {i : Nat} (e : f i = some .unset) {v : Value} (hv : v.category ≠ 2) : WFf (upd f i (.val v)) := by
  obtain ⟨h1, h2, h3⟩ := h
  refine ⟨fun k w hk hc => ?_, fun k hk => ?_, ?_⟩
  · simp only [upd] at hk ⊢
    by_cases a : k = i
    · simp only [a, if_true, Option.some.injEq, Slot.val.injEq] at hk; subst hk; exact absurd hc hv
    · simp only [a, if_false] at hk
      have q := h1 k w hk hc
      by_cases d : k + 1 = i
      · rw [d, e] at q; cases q
      · simp [d, q]
  · simp only [upd] at hk ⊢
    by_cases a : k + 1 = i
    · simp [a] at hk
    · simp only [a, if_false] at hk
      obtain ⟨w, hw, hw2⟩ := h2 k hk
      by_cases d : k = i
      · rw [d, e] at hw; cases hw
      · exact ⟨w, by simp [d, hw], hw2⟩
  · simp only [upd]
    by_cases b : 0 = i
    · simp [← b]
    · simp [b, h3]
theorem wff_two {f : Nat → Option Slot} (h : WFf f) {i : Nat} (e : f i = some .unset) (e' : f (i + 1) = some .unset) {v : Value} (hv : v.category = 2) : WFf (upd (upd f i (.val v)) (i + 1) .second) := by
  obtain ⟨h1, h2, h3⟩ := h
  refine ⟨fun k w hk hc => ?_, fun k hk => ?_, ?_⟩
  · simp only [upd] at hk ⊢
    by_cases a : k = i + 1
    · simp [a] at hk
    · by_cases b : k = i
      · simp [b]
      · simp only [a, b, if_false] at hk
        have q := h1 k w hk hc
        by_cases d : k + 1 = i
        · rw [d, e] at q; cases q
        · simp [d, show ¬ (k + 1 = i + 1) by omega, q]
  · simp only [upd] at hk ⊢
    by_cases a : k = i
    · exact ⟨v, by simp [a], hv⟩
    · by_cases b : k + 1 = i
      · simp [b] at hk
      · simp only [show ¬ (k + 1 = i + 1) by omega, b, if_false] at hk
        obtain ⟨w, hw, hw2⟩ := h2 k hk
        by_cases d : k = i + 1
        · rw [d, e'] at hw; cases hw
        · exact ⟨w, by simp [d, a, hw], hw2⟩
  · simp only [upd]
    by_cases b : 0 = i
    · simp [← b]
    · simp [b, h3]
theorem gset (L : Array Slot) {i : Nat} (hi : i < L.size) (x : Slot) : (fun k => (L.setIfInBounds i x)[k]?) = upd (fun k => L[k]?) i x := by
  funext k
  simp only [upd, Array.getElem?_setIfInBounds]
  by_cases a : i = k
  · subst a; simp [hi]
  · simp [a, show ¬ k = i from fun h => a h.symm]
theorem sl_eq (L : Array Slot) (i : Nat) (v : Value) : storeLocals L i v = (L[i]?).bind (fun x => match x with
    | .second => (setAt L (i - 1) .unset).bind (fun l => storeSelf l i v)
    | .val old => if old.category = 2 then (setAt L (i + 1) .unset).bind (fun l => storeSelf l i v) else storeSelf L i v
    | .unset => storeSelf L i v) := rfl
theorem ss_eq (L : Array Slot) (i : Nat) (v : Value) : storeSelf L i v = (setAt L i (.val v)).bind (fun l => if v.category = 2 then (l[i + 1]?).bind (fun x => match x with
    | .val old => if old.category = 2 then (setAt l (i + 2) .unset).bind (fun l' => setAt l' (i + 1) .second) else setAt l (i + 1) .second
    | _ => setAt l (i + 1) .second) else some l) := rfl
theorem sa_eq {L : Array Slot} {i : Nat} (hi : i < L.size) (x : Slot) : setAt L i x = some (L.setIfInBounds i x) := if_pos hi
theorem upd_upd (f : Nat → Option Slot) (i : Nat) (x y : Slot) : upd (upd f i x) i y = upd f i y := by
  funext k; simp only [upd]; split <;> rfl
/-- what a store clears first -/
theorem clear_ok {L : Array Slot} (hW : WF L) {i : Nat} (hi : i < L.size) (v : Value) : ∃ L1, storeLocals L i v = storeSelf L1 i v ∧ L1.size = L.size ∧ upd (fun k => L1[k]?) i .unset = upd (clearF (fun k => L[k]?) i) i .unset := by
  have hh : WFf (fun k => L[k]?) := hW
  obtain ⟨sl, hsl⟩ : ∃ sl, L[i]? = some sl := ⟨L[i], Array.getElem?_eq_getElem hi⟩
  rw [sl_eq, hsl, Option.bind_some]
  cases sl with
  | unset => exact ⟨L, rfl, rfl, by simp only [clearF, hsl]⟩
  | second =>
    refine ⟨L.setIfInBounds (i - 1) .unset, ?_, by simp, ?_⟩
    · show (setAt L (i - 1) .unset).bind _ = _
      rw [sa_eq (by omega)]; rfl
    · rw [gset _ (by omega)]; simp only [clearF, hsl, upd_upd]
  | val old =>
    by_cases hc : old.category = 2
    · have h2 := hh.1 i old hsl hc
      have hlt : i + 1 < L.size := (Array.getElem?_eq_some_iff.mp h2).1
      refine ⟨L.setIfInBounds (i + 1) .unset, ?_, by simp, ?_⟩
      · show (if old.category = 2 then _ else _) = _
        rw [if_pos hc, sa_eq hlt]; rfl
      · rw [gset _ hlt]; simp only [clearF, hsl, hc, if_true, upd_upd]
    · refine ⟨L, ?_, rfl, ?_⟩
      · show (if old.category = 2 then _ else _) = _
        rw [if_neg hc]
      · simp only [clearF, hsl, hc, if_false, upd_upd]
theorem clearF_at {f : Nat → Option Slot} {i : Nat} (hi : f i ≠ none) : clearF f i i = some .unset := by
  rcases clearF_cases f i with ⟨h1, h2⟩ | ⟨old, h1, h3, h2⟩ | ⟨old, h1, h3, h2⟩ | ⟨h1 | h1, h2⟩
  · rw [h2]; simp [upd]
  · rw [h2]; simp [upd]
  · rw [h2]; simp [upd]
  · rw [h2]; exact h1
  · exact absurd h1 hi
theorem clearF_self {f : Nat → Option Slot} {i : Nat} (hi : f i ≠ none) : upd (clearF f i) i .unset = clearF f i := by
  funext k; simp only [upd]; split
  · rename_i e; rw [e]; exact (clearF_at hi).symm
  · rfl
/-- the other variables: kept, or they held (a part of) a long -/
theorem clearF_keep {f : Nat → Option Slot} (h : WFf f) {i k : Nat} {w : Value} (hk : k ≠ i) (e : f k = some (.val w)) (hw : k + 1 = i → w.category ≠ 2) : clearF f i k = some (.val w) := by
  rcases clearF_cases f i with ⟨e2, h2⟩ | ⟨old, e2, hc, h2⟩ | ⟨old, e2, hc, h2⟩ | ⟨-, h2⟩
  · rw [h2]
    cases i with
    | zero => exact absurd e2 h.2.2
    | succ j =>
      simp only [upd, Nat.add_sub_cancel, hk, if_false]
      split
      · rename_i hj; subst hj
        obtain ⟨v, hv, hv2⟩ := h.2.1 k e2
        rw [e] at hv; cases hv; exact absurd hv2 (hw rfl)
      · exact e
  · rw [h2]
    have q := h.1 i old e2 hc
    simp only [upd, hk, if_false]
    split
    · rename_i hj; rw [hj, q] at e; cases e
    · exact e
  · rw [h2]; simp [upd, hk, e]
  · rw [h2]; exact e
theorem store_one {L : Array Slot} (hW : WF L) {i : Nat} (hi : i < L.size) {v : Value} (hv : v.category ≠ 2) :
    ∃ L', storeLocals L i v = some L' ∧ L'.size = L.size ∧ WF L' ∧ (fun k => L'[k]?) = upd (clearF (fun k => L[k]?) i) i (.val v) := by
  obtain ⟨L1, h1, h2, h3⟩ := clear_ok hW hi v
  have hne : (fun k => L[k]?) i ≠ none := by simp; omega
  have hi1 : i < L1.size := by omega
  refine ⟨L1.setIfInBounds i (.val v), ?_, by simp [h2], ?_, ?_⟩
  · rw [h1, ss_eq, sa_eq hi1, Option.bind_some, if_neg hv]
  · have q : (fun k => (L1.setIfInBounds i (.val v))[k]?) = upd (clearF (fun k => L[k]?) i) i (.val v) := by
      rw [gset _ hi1, ← upd_upd _ i .unset, h3, upd_upd]
    have w : WFf (fun k => (L1.setIfInBounds i (.val v))[k]?) := by
      rw [q]; exact wff_one (wff_clear hW i) (clearF_at hne) hv
    exact w
  · rw [gset _ hi1, ← upd_upd _ i .unset, h3, upd_upd]
theorem store_two {L : Array Slot} (hW : WF L) {i : Nat} (hi : i + 1 < L.size) {v : Value} (hv : v.category = 2) :
    ∃ L', storeLocals L i v = some L' ∧ L'.size = L.size ∧ WF L' ∧ (fun k => L'[k]?) = upd (upd (clearF (clearF (fun k => L[k]?) i) (i + 1)) i (.val v)) (i + 1) .second := by
  obtain ⟨L1, h1, h2, h3⟩ := clear_ok hW (show i < L.size by omega) v
  have hne : (fun k => L[k]?) i ≠ none := by simp; omega
  have hi1 : i < L1.size := by omega
  have hi2 : i + 1 < L1.size := by omega
  rw [clearF_self hne] at h3
  have hWc := wff_clear (f := fun k => L[k]?) hW i
  generalize hF : clearF (fun k => L[k]?) i = F at *
  have hFi : F i = some .unset := by rw [← hF]; exact clearF_at hne
  have g1 : (fun k => (L1.setIfInBounds i (.val v))[k]?) = upd F i (.val v) := by rw [gset _ hi1, ← upd_upd _ i .unset, h3]
  have g2 : (L1.setIfInBounds i (.val v))[i + 1]? = F (i + 1) := by
    have := congrFun g1 (i + 1); simpa [upd] using this
  have hFi1 : F (i + 1) ≠ none := by
    have : (L1.setIfInBounds i (.val v))[i + 1]? ≠ none := by simp; omega
    rw [g2] at this; exact this
  have hns : F (i + 1) ≠ some .second := fun q => by
    obtain ⟨w, hw, -⟩ := hWc.2.1 i q
    rw [hFi] at hw; cases hw
  have key : ∀ G : Nat → Option Slot, WFf G → G i = some .unset → G (i + 1) = some .unset → G = clearF F (i + 1) → WFf (upd (upd (clearF F (i + 1)) i (.val v)) (i + 1) .second) := fun G hG a b e => by rw [← e]; exact wff_two hG a b hv
  have hcl := wff_clear hWc (i + 1)
  have hcli : clearF F (i + 1) i = some .unset := by
    rcases clearF_cases F (i + 1) with ⟨q, h2⟩ | ⟨old, q, hc, h2⟩ | ⟨old, q, hc, h2⟩ | ⟨-, h2⟩
    · exact absurd q hns
    · rw [h2]; simp [upd, hFi]
    · rw [h2]; simp [upd, hFi]
    · rw [h2]; exact hFi
  have hWF := wff_two hcl hcli (clearF_at hFi1) hv
  rw [h1, ss_eq, sa_eq hi1, Option.bind_some, if_pos hv, g2]
  cases hx : F (i + 1) with
  | none => exact absurd hx hFi1
  | some sl =>
    cases sl with
    | second => exact absurd hx hns
    | unset =>
      have e1 : clearF F (i + 1) = F := by simp only [clearF, hx]
      have e3 : (fun k => ((L1.setIfInBounds i (.val v)).setIfInBounds (i + 1) .second)[k]?) = upd (upd (clearF F (i + 1)) i (.val v)) (i + 1) .second := by
        rw [gset _ (by simpa using hi2), g1, e1]
      refine ⟨(L1.setIfInBounds i (.val v)).setIfInBounds (i + 1) .second, ?_, by simp [h2], ?_, e3⟩
      · show setAt _ (i + 1) .second = _
        rw [sa_eq (by simpa using hi2)]
      · have w : WFf (fun k => ((L1.setIfInBounds i (.val v)).setIfInBounds (i + 1) .second)[k]?) := by rw [e3]; exact hWF
        exact w
    | val old =>
      by_cases hc : old.category = 2
      · have q := hWc.1 _ _ hx hc
        have hi3 : i + 2 < L1.size := by
          have q2 : (L1.setIfInBounds i (.val v))[i + 2]? = some .second := by
            have := congrFun g1 (i + 2); simpa [upd, q] using this
          have := (Array.getElem?_eq_some_iff.mp q2).1
          simpa using this
        have e1 : clearF F (i + 1) = upd (upd F (i + 2) .unset) (i + 1) .unset := by simp only [clearF, hx, hc, if_true]
        have e3 : (fun k => (((L1.setIfInBounds i (.val v)).setIfInBounds (i + 2) .unset).setIfInBounds (i + 1) .second)[k]?) = upd (upd (clearF F (i + 1)) i (.val v)) (i + 1) .second := by
          rw [gset _ (by simpa using hi2), gset _ (by simpa using hi3), g1, e1]
          funext k; simp only [upd]
          by_cases a : k = i + 1
          · simp [a]
          · by_cases b : k = i
            · simp [b]
            · simp [a, b]
        refine ⟨((L1.setIfInBounds i (.val v)).setIfInBounds (i + 2) .unset).setIfInBounds (i + 1) .second, ?_, by simp [h2], ?_, e3⟩
        · show (if old.category = 2 then _ else _) = _
          rw [if_pos hc, sa_eq (by simpa using hi3), Option.bind_some, sa_eq (by simpa using hi2)]
        · have w : WFf (fun k => (((L1.setIfInBounds i (.val v)).setIfInBounds (i + 2) .unset).setIfInBounds (i + 1) .second)[k]?) := by rw [e3]; exact hWF
          exact w
      · have e1 : clearF F (i + 1) = upd F (i + 1) .unset := by simp only [clearF, hx, hc, if_false]
        have e3 : (fun k => ((L1.setIfInBounds i (.val v)).setIfInBounds (i + 1) .second)[k]?) = upd (upd (clearF F (i + 1)) i (.val v)) (i + 1) .second := by
          rw [gset _ (by simpa using hi2), g1, e1]
          funext k; simp only [upd]
          by_cases a : k = i + 1
          · simp [a]
          · by_cases b : k = i
            · simp [b]
            · simp [a, b]
        refine ⟨(L1.setIfInBounds i (.val v)).setIfInBounds (i + 1) .second, ?_, by simp [h2], ?_, e3⟩
        · show (if old.category = 2 then _ else _) = _
          rw [if_neg hc, sa_eq (by simpa using hi2)]
        · have w : WFf (fun k => ((L1.setIfInBounds i (.val v)).setIfInBounds (i + 1) .second)[k]?) := by rw [e3]; exact hWF
          exact w
theorem cat_va (ρ : Nat → Nat) (v : Value) : (va ρ v).category = v.category := by cases v <;> rfl
theorem clr_len (ls : Lv) (i : Nat) : (clr ls i).length = ls.length := by
  cases i with
  | zero => rfl
  | succ j => simp only [clr]; split <;> simp
theorem clr_get {ls : Lv} {i k : Nat} {v : Value} (h : (clr ls i)[k]? = some (some v)) : ls[k]? = some (some v) ∧ (k + 1 = i → v.category ≠ 2) := by
  cases i with
  | zero => exact ⟨h, fun q => by omega⟩
  | succ j =>
    simp only [clr] at h
    split at h
    · rename_i x e
      rw [List.getElem?_set] at h
      split at h
      · rename_i hj; subst hj; split at h <;> simp at h
      · rename_i hj; exact ⟨h, fun q => by omega⟩
    · rename_i x e
      rw [List.getElem?_set] at h
      split at h
      · rename_i hj; subst hj; split at h <;> simp at h
      · rename_i hj; exact ⟨h, fun q => by omega⟩
    · rename_i e1 e2
      refine ⟨h, fun q hc => ?_⟩
      have hk : k = j := by omega
      subst hk
      cases v <;> first | exact e1 _ h | exact e2 _ h | (exact Nat.noConfusion (Nat.succ.inj hc))
theorem store_ok {ρ : Nat → Nat} {ls ls' : Lv} {L : Array Slot} {i : Nat} {v : Value} (hL : LR ρ ls L) (hd : ∀ x, v ≠ .double x) (h : stl ls i v = some ls') : ∃ L', storeLocals L i (va ρ v) = some L' ∧ LR ρ ls' L' ∧ L'.size = L.size := by
  obtain ⟨hz, hr, hW⟩ := hL
  have hWf : WFf (fun k => L[k]?) := hW
  by_cases hc : v.category = 2
  · obtain ⟨x, rfl⟩ : ∃ x, v = .long x := by cases v <;> simp [Value.category] at hc <;> first | exact ⟨_, rfl⟩ | exact absurd rfl (hd _)
    simp only [stl] at h
    split at h
    · rename_i hi
      cases h
      obtain ⟨L', a1, a2, a3, a4⟩ := store_two hW (show i + 1 < L.size by omega) (v := va ρ (.long x)) rfl
      refine ⟨L', a1, ⟨by simp [a2, hz, clr_len], fun k w hk => ?_, a3⟩, a2⟩
      have q : L'[k]? = _ := congrFun a4 k
      rw [q]
      rw [List.getElem?_set] at hk
      split at hk
      · simp at hk
      · rename_i hk1
        rw [List.getElem?_set] at hk
        split at hk
        · rename_i hk2; subst hk2
          simp only [clr_len] at hk
          split at hk
          · cases hk; simp [upd]
          · simp at hk
        · rename_i hk2
          obtain ⟨b1, b2⟩ := clr_get hk
          have b3 := hr _ _ b1
          have b4 : clearF (fun k => L[k]?) i k = some (.val (va ρ w)) := clearF_keep hWf (fun q => hk2 q.symm) b3 (fun q => by rw [cat_va]; exact b2 q)
          have b5 := clearF_keep (wff_clear hWf i) (i := i + 1) (fun q => hk1 q.symm) b4 (fun q => absurd (Nat.succ.inj q) fun z => hk2 z.symm)
          simp only [upd, show ¬ k = i + 1 from fun q => hk1 q.symm, show ¬ k = i from fun q => hk2 q.symm, if_false]
          exact b5
    · cases h
  · have hs : stl ls i v = if i < ls.length then some ((clr ls i).set i (some v)) else none := by cases v <;> first | rfl | exact absurd rfl hc
    rw [hs] at h
    split at h
    · rename_i hi
      cases h
      obtain ⟨L', a1, a2, a3, a4⟩ := store_one hW (show i < L.size by omega) (v := va ρ v) (by rw [cat_va]; exact hc)
      refine ⟨L', a1, ⟨by simp [a2, hz, clr_len], fun k w hk => ?_, a3⟩, a2⟩
      have q : L'[k]? = _ := congrFun a4 k
      rw [q]
      rw [List.getElem?_set] at hk
      split at hk
      · rename_i hk2; subst hk2
        simp only [clr_len] at hk
        split at hk
        · cases hk; simp [upd]
        · omega
      · rename_i hk2
        obtain ⟨b1, b2⟩ := clr_get hk
        have b3 := hr _ _ b1
        have b4 : clearF (fun k => L[k]?) i k = some (.val (va ρ w)) := clearF_keep hWf (fun q => hk2 q.symm) b3 (fun q => by rw [cat_va]; exact b2 q)
        simp only [upd, show ¬ k = i from fun q => hk2 q.symm, if_false]
        exact b4
    · cases h
end Jvm.LM

namespace Jvm.LM
open Sem ClassFile Op Lib Jvm.Stand Jvm.Free Jvm.LawKit Jvm.RoadKit
section Pure
variable {p : Program} {l : Launch} {e : Env} {R : Room} {s : State} {m : MethodId} {args : Array Value} {below : List Frame} {meth : Method} {c : Code} {T : State} {locs : List Loc} {cells slots : Nat}
theorem br_eq (cd : ClassFile.Cond) (x y : Int32) (a b : Nat) : br cd x y a b = if if_icmp.holds cd x y = true then a else b := by
  cases cd <;> simp only [br]
  · by_cases h : x = y <;> simp [h, XT.ii_eq_t, XT.ii_eq_f]
  · by_cases h : x = y
    · rw [if_pos h, XT.ii_ne_f h]; rfl
    · rw [if_neg h, XT.ii_ne_t h]; rfl
  · by_cases h : x < y
    · rw [if_pos h, XT.ii_lt_t h]; rfl
    · rw [if_neg h, XT.ii_lt_f h]; rfl
  · by_cases h : x < y
    · rw [if_pos h, XT.ii_ge_f h]; rfl
    · rw [if_neg h, XT.ii_ge_t h]; rfl
  · by_cases h : y < x
    · rw [if_pos h, XT.ii_gt_t h]; rfl
    · rw [if_neg h, XT.ii_gt_f h]; rfl
  · by_cases h : y < x
    · rw [if_pos h, XT.ii_le_f h]; rfl
    · rw [if_neg h, XT.ii_le_t h]; rfl
theorem qstep_sound (X : Stand p l e R s m args below meth c T locs cells slots) (hx : p.tables.exec = Jvm.exec) {ρ : Nat → Nat} {i : Instr} {n pc pc' : Nat} {st st' : List Value}
    (h : qstep i pc st = some (pc', st')) (hd : decode c.code pc = .ok (i, n)) (hn : isSw i = true ∨ n = ilen i) {L : Array Slot} :
    ∀ target, Steps p.tables e below (T.setTop (mkF m pc' L (st'.map (va ρ)))) target → Steps p.tables e below (T.setTop (mkF m pc L (st.map (va ρ)))) target := by
  by_cases hsw : isSw i = true
  · cases i <;> first | exact absurd hsw Bool.false_ne_true | skip
    rename_i d lo hi offs
    simp only [qstep] at h
    split at h
    · rename_i x r
      split at h
      · rename_i e1
        split at h
        · rename_i e2; cases h; exact fun t q => X.tableswitchOut hx (g := mkF m pc L (.int x :: List.map (va ρ) _)) rfl rfl hd e1 e2 t q
        · cases h
      · rename_i e1
        split at h
        · rename_i o e2
          split at h
          · rename_i e3; cases h; exact fun t q => X.tableswitchIn hx (g := mkF m pc L (.int x :: List.map (va ρ) _)) rfl rfl hd e1 e2 e3 t q
          · cases h
        · cases h
    · cases h
  obtain rfl := hn.resolve_left hsw
  unfold qstep at h
  split at h
  -- constants
  · cases h; exact fun t q => XS.iconst X.here hx rfl hd q
  · cases h; exact fun t q => XS.bipush X.here hx rfl hd q
  · cases h; exact fun t q => XS.sipush X.here hx rfl hd q
  · cases h; exact fun t q => XT.lconst X.here hx rfl hd q
  -- ints
  · split at h
    · cases h; exact fun t q => XS.iadd X.here hx rfl hd rfl q
    · cases h
  · split at h
    · cases h; exact fun t q => XS.isub X.here hx rfl hd rfl q
    · cases h
  · split at h
    · cases h; exact fun t q => XS.imul X.here hx rfl hd rfl q
    · cases h
  · split at h
    · cases h; exact fun t q => XS.iand X.here hx rfl hd rfl q
    · cases h
  · split at h
    · cases h; exact fun t q => XT.ior X.here hx rfl hd rfl q
    · cases h
  · split at h
    · cases h; exact fun t q => XT.ixor X.here hx rfl hd rfl q
    · cases h
  · split at h
    · cases h; exact fun t q => XT.ishl X.here hx rfl hd rfl q
    · cases h
  · split at h
    · cases h; exact fun t q => XT.ishr X.here hx rfl hd rfl q
    · cases h
  · split at h
    · cases h; exact fun t q => XT.iushr X.here hx rfl hd rfl q
    · cases h
  · split at h
    · split at h
      · cases h
      · rename_i e1; cases h; exact fun t q => XS.idiv X.here hx rfl hd rfl e1 q
    · cases h
  · split at h
    · split at h
      · cases h
      · rename_i e1; cases h; exact fun t q => iremM X hx rfl hd rfl e1 q
    · cases h
  · split at h
    · cases h; exact fun t q => XS.ineg X.here hx rfl hd rfl q
    · cases h
  -- longs
  · split at h
    · cases h; exact fun t q => XT.ladd X.here hx rfl hd rfl q
    · cases h
  · split at h
    · cases h; exact fun t q => XT.lsub X.here hx rfl hd rfl q
    · cases h
  · split at h
    · cases h; exact fun t q => XT.lmul X.here hx rfl hd rfl q
    · cases h
  · split at h
    · cases h; exact fun t q => XT.land X.here hx rfl hd rfl q
    · cases h
  · split at h
    · cases h; exact fun t q => XT.lor X.here hx rfl hd rfl q
    · cases h
  · split at h
    · cases h; exact fun t q => XT.lxor X.here hx rfl hd rfl q
    · cases h
  · split at h
    · cases h; exact fun t q => XT.lshl X.here hx rfl hd rfl q
    · cases h
  · split at h
    · cases h; exact fun t q => XT.lshr X.here hx rfl hd rfl q
    · cases h
  · split at h
    · cases h; exact fun t q => XT.lushr X.here hx rfl hd rfl q
    · cases h
  · split at h
    · split at h
      · cases h
      · rename_i e1; cases h; exact fun t q => XT.ldiv X.here hx rfl hd rfl e1 q
    · cases h
  · split at h
    · cases h; exact fun t q => XT.lneg X.here hx rfl hd rfl q
    · cases h
  · split at h
    · cases h; exact fun t q => XT.lcmp X.here hx rfl hd rfl q
    · cases h
  · split at h
    · cases h; exact fun t q => XT.i2l X.here hx rfl hd rfl q
    · cases h
  · split at h
    · cases h; exact fun t q => XT.l2i X.here hx rfl hd rfl q
    · cases h
  -- dup, pop
  · split at h
    · cases h; exact fun t q => XS.dup X.here hx rfl hd rfl rfl q
    · cases h; exact fun t q => XS.dup X.here hx rfl hd rfl rfl q
    · cases h
  · split at h
    · cases h; exact fun t q => XT.pop X.here hx rfl hd rfl rfl q
    · cases h; exact fun t q => XT.pop X.here hx rfl hd rfl rfl q
    · cases h
  -- jumps
  · split at h
    · rename_i e1; cases h; exact fun t q => XS.goto X.here hx rfl rfl hd e1 rfl q
    · cases h
  · split at h
    · split at h
      · rename_i e1; cases h
        intro t q
        rw [br_eq] at q
        split at q
        · rename_i e2; exact XS.ifYes X.here hx rfl rfl hd rfl (by rw [if0]; exact e2) e1 rfl q
        · rename_i e2; exact XS.ifNo X.here hx rfl hd rfl (by rw [if0]; simpa using e2) q
      · cases h
    · cases h
  · split at h
    · split at h
      · rename_i e1; cases h
        intro t q
        rw [br_eq] at q
        split at q
        · rename_i e2; exact XS.icmpYes X.here hx rfl rfl hd rfl e2 e1 rfl q
        · rename_i e2; exact XS.icmpNo X.here hx rfl hd rfl (by simpa using e2) q
      · cases h
    · cases h
  · exact absurd rfl hsw
  · cases h
theorem pstep_sound (X : Stand p l e R s m args below meth c T locs cells slots) (hx : p.tables.exec = Jvm.exec) {ρ : Nat → Nat} {i : Instr} {n pc pc' : Nat} {ls ls' : Lv} {st st' : List Value}
    (h : pstep i pc ls st = some (pc', ls', st')) (hd : decode c.code pc = .ok (i, n)) (hn : isSw i = true ∨ n = ilen i) {L : Array Slot} (hL : LR ρ ls L) :
    ∃ L', LR ρ ls' L' ∧ L'.size = L.size ∧ ∀ target, Steps p.tables e below (T.setTop (mkF m pc' L' (st'.map (va ρ)))) target → Steps p.tables e below (T.setTop (mkF m pc L (st.map (va ρ)))) target := by
  by_cases hsw : isSw i = true
  · cases i <;> first | exact absurd hsw Bool.false_ne_true | skip
    simp only [pstep] at h
    split at h
    · rename_i e1; cases h; exact ⟨L, hL, rfl, qstep_sound X hx e1 hd hn⟩
    · cases h
  obtain rfl := hn.resolve_left hsw
  unfold pstep at h
  split at h
  -- loads
  · split at h
    · rename_i e1; cases h; exact ⟨L, hL, rfl, fun t q => XS.iloadN X.here hx rfl hd (hL.2.1 _ _ e1) q⟩
    · cases h
  · split at h
    · rename_i e1; cases h; exact ⟨L, hL, rfl, fun t q => XS.iload X.here hx rfl hd (hL.2.1 _ _ e1) q⟩
    · cases h
  · split at h
    · rename_i e1; cases h; exact ⟨L, hL, rfl, fun t q => XT.lloadN X.here hx rfl hd (hL.2.1 _ _ e1) q⟩
    · cases h
  · split at h
    · rename_i e1; cases h; exact ⟨L, hL, rfl, fun t q => XT.lload X.here hx rfl hd (hL.2.1 _ _ e1) q⟩
    · cases h
  · split at h
    · rename_i e1; cases h; exact ⟨L, hL, rfl, fun t q => XS.aloadN X.here hx rfl hd (hL.2.1 _ _ e1) rfl q⟩
    · cases h
  · split at h
    · rename_i e1; cases h; exact ⟨L, hL, rfl, fun t q => XS.aload X.here hx rfl hd (hL.2.1 _ _ e1) rfl q⟩
    · cases h
  -- stores
  · split at h
    · split at h
      · rename_i e1; cases h
        obtain ⟨L', a1, a2, a3⟩ := store_ok hL (fun x => by simp) e1
        exact ⟨L', a2, a3, fun t q => XS.istoreN X.here hx rfl hd rfl a1 q⟩
      · cases h
    · cases h
  · split at h
    · split at h
      · rename_i e1; cases h
        obtain ⟨L', a1, a2, a3⟩ := store_ok hL (fun x => by simp) e1
        exact ⟨L', a2, a3, fun t q => XS.istore X.here hx rfl hd rfl a1 q⟩
      · cases h
    · cases h
  · split at h
    · split at h
      · rename_i e1; cases h
        obtain ⟨L', a1, a2, a3⟩ := store_ok hL (fun x => by simp) e1
        exact ⟨L', a2, a3, fun t q => XT.lstoreN X.here hx rfl hd rfl a1 q⟩
      · cases h
    · cases h
  · split at h
    · split at h
      · rename_i e1; cases h
        obtain ⟨L', a1, a2, a3⟩ := store_ok hL (fun x => by simp) e1
        exact ⟨L', a2, a3, fun t q => XT.lstore X.here hx rfl hd rfl a1 q⟩
      · cases h
    · cases h
  · split at h
    · split at h
      · rename_i e1; cases h
        obtain ⟨L', a1, a2, a3⟩ := store_ok hL (fun x => by simp) e1
        exact ⟨L', a2, a3, fun t q => XS.astoreN X.here hx rfl hd rfl rfl a1 q⟩
      · cases h
    · cases h
  · split at h
    · split at h
      · rename_i e1; cases h
        obtain ⟨L', a1, a2, a3⟩ := store_ok hL (fun x => by simp) e1
        exact ⟨L', a2, a3, fun t q => XS.astore X.here hx rfl hd rfl rfl a1 q⟩
      · cases h
    · cases h
  · split at h
    · rename_i e0
      split at h
      · rename_i e1; cases h
        obtain ⟨L', a1, a2, a3⟩ := store_ok hL (fun x => by simp) e1
        exact ⟨L', a2, a3, fun t q => XS.iinc X.here hx rfl hd (hL.2.1 _ _ e0) a1 q⟩
      · cases h
    · cases h
  · rename_i hq
    split at h
    · rename_i e1; cases h; exact ⟨L, hL, rfl, qstep_sound X hx e1 hd hn⟩
    · cases h
end Pure
/-! the class's own machine -/
def nd : List Value → Bool
  | [] => true
  | .double _ :: _ => false
  | _ :: r => nd r
theorem nd_spec {as : List Value} (h : nd as = true) : ∀ v ∈ as, ∀ x, v ≠ .double x := by
  induction as with
  | nil => intro v hv; cases hv
  | cons w r ih =>
    intro v hv x e
    rcases List.mem_cons.mp hv with q | q
    · subst q; subst e; cases h
    · refine ih ?_ v q x e
      cases w <;> first | exact h | cases h
def layA : List Value → Lv
  | [] => []
  | .long x :: r => some (.long x) :: none :: layA r
  | v :: r => some v :: layA r
def lay (as : List Value) (n : Nat) : Lv := layA as ++ List.replicate (n - (layA as).length) none
def cats (st : List Value) : Nat := (st.map fun v => v.category).sum
def tyOf : Nat → FieldType
  | 0 => .int
  | 1 => .boolean
  | _ => .long
def atOf : Nat → ArrayType
  | 0 => .int
  | 1 => .boolean
  | _ => .long
def retOf : Nat → Option FieldType
  | 0 => none
  | 1 => some .int
  | 2 => some .boolean
  | _ => some .long
def zs (al : List (Nat × Nat)) (c : Nat) : Nat := ((al.take c).map (·.2)).sum
abbrev Rs := Option (Option Value × St)
def cret (me : Me) (st : List Value) (i : Instr) : Option (Option Value) :=
  match i with
  | .ireturn => match st with
    | [.int x] => if me.rt = 1 then some (some (.int x)) else if me.rt = 2 then some (some (.int (x &&& 1))) else none
    | _ => none
  | .lreturn => match st with
    | [.long x] => if me.rt = 3 then some (some (.long x)) else none
    | _ => none
  | .return_ => match st with
    | [] => if me.rt = 0 then some none else none
    | _ => none
  | _ => none
def isRet : Instr → Bool
  | .ireturn => true
  | .lreturn => true
  | .return_ => true
  | _ => false
def gfld (P : Cl) (x : Nat) (c : Nat) (s : St) : Option Value :=
  match asc P.fx x with
  | none => none
  | some k => match asc P.fs k with
    | none => none
    | some fe => match fe.2.2.1 with
      | 0 => some (.int (gI s 0 k))
      | 1 => some (.int (gI s 0 k))
      | 2 => some (.long (gL s 0 k))
      | j + 3 => if j < c then some (.ref (j + 1)) else none
def pfld (P : Cl) (x : Nat) (ini : Bool) (v : Value) (s : St) : Option St :=
  match asc P.fx x with
  | none => none
  | some k => match asc P.fs k with
    | none => none
    | some fe => if fe.2.2.2 = true ∧ ini = false then none else
      match fe.2.2.1, v with
      | 0, .int z => some (sI s 0 k z)
      | 1, .int z => some (sI s 0 k (z &&& 1))
      | 2, .long z => some (sL s 0 k z)
      | _, _ => none
def newF (P : Cl) (t : ArrayType) (cd : Cd) (pc c : Nat) (st : List Value) : Bool :=
  match st with
  | [.int n, .ref 0] => match fetch cd (pc + 2) with
    | some (.putfield x, 3) => match asc P.fx x with
      | some k => match asc P.fs k with
        | some fe => match P.al[c]? with
          | some (tt, N) => decide (fe.2.2.1 = c + 3 ∧ t = atOf tt ∧ 0 ≤ n.toInt ∧ n.toInt = N ∧ N < 1000000)
          | none => false
        | none => false
      | none => false
    | _ => false
  | _ => false
def lda (P : Cl) (tt c : Nat) (st : List Value) (s : St) : Option (List Value) :=
  match st with
  | .int i :: .ref (a + 1) :: r => match P.al[a]? with
    | some (t2, N) => if t2 = tt ∧ a < c then (if inb N i then some ((if tt = 2 then .long (gL s (a + 1) (ix i)) else .int (gI s (a + 1) (ix i))) :: r) else none) else none
    | none => none
  | _ => none
def sta (P : Cl) (tt c : Nat) (st : List Value) (s : St) : Option (List Value × St) :=
  match st with
  | v :: .int i :: .ref (a + 1) :: r => match P.al[a]? with
    | some (t2, N) => if t2 = tt ∧ a < c then (if inb N i then (match tt, v with
        | 0, .int z => some (r, sI s (a + 1) (ix i) z)
        | 1, .int z => some (r, sI s (a + 1) (ix i) (z &&& 1))
        | 2, .long z => some (r, sL s (a + 1) (ix i) z)
        | _, _ => none) else none) else none
    | none => none
  | _ => none
def cstep {α : Type} (P : Cl) (mi : Nat) (me : Me) (rt : Option Value → St → Option α) (cl : Nat → Nat → List Value → St → Rs) (k : Nat → Nat → Lv → List Value → St → Option α) (i : Instr) (c pc : Nat) (ls : Lv) (st : List Value) (s : St) : Option α :=
  match i with
  | .getfield x => match st with
    | .ref 0 :: r => (match gfld P x c s with | some v => k c (pc + 3) ls (v :: r) s | none => none)
    | _ => none
  | .putfield x => match st with
    | v :: .ref 0 :: r => (match pfld P x (mi == 0) v s with | some s' => k c (pc + 3) ls r s' | none => none)
    | _ => none
  | .iaload => match lda P 0 c st s with | some st' => k c (pc + 1) ls st' s | none => none
  | .baload => match lda P 1 c st s with | some st' => k c (pc + 1) ls st' s | none => none
  | .laload => match lda P 2 c st s with | some st' => k c (pc + 1) ls st' s | none => none
  | .iastore => match sta P 0 c st s with | some (st', s') => k c (pc + 1) ls st' s' | none => none
  | .bastore => match sta P 1 c st s with | some (st', s') => k c (pc + 1) ls st' s' | none => none
  | .lastore => match sta P 2 c st s with | some (st', s') => k c (pc + 1) ls st' s' | none => none
  | .newarray t => if mi = 0 ∧ newF P t me.cd pc c st = true then k (c + 1) (pc + 5) ls [] s else none
  | .ldc x => match asc P.kx x with | some (.int z) => k c (pc + 2) ls (.int z :: st) s | _ => none
  | .ldc2_w x => match asc P.kx x with | some (.long z) => k c (pc + 3) ls (.long z :: st) s | _ => none
  | .invokespecial x => match st with
    | .ref 0 :: r => if x = P.oi ∧ 1 ≤ me.rf ∧ cats r + 12 ≤ me.rl then k c (pc + 3) ls r s else none
    | _ => none
  | .invokevirtual x => match asc P.mx x with
    | none => none
    | some m' => match asc P.ms m' with
      | none => none
      | some me' => match st.drop me'.na with
        | .ref 0 :: r => if m' ≠ 0 ∧ me'.rf + 1 ≤ me.rf ∧ cats r + (me'.ml + 11) + me'.rl ≤ me.rl ∧ nd (st.take me'.na) = true then
            (match cl m' c (.ref 0 :: (st.take me'.na).reverse) s with
             | some (none, s') => k c (pc + 3) ls r s'
             | some (some v, s') => k c (pc + 3) ls (v :: r) s'
             | none => none) else none
        | _ => none
  | i => if isRet i = true then (if mi = 0 ∧ c ≠ P.al.length then none else match cret me st i with | some v => rt v s | none => none)
    else match pstep i pc ls st with | some (pc', ls', st') => k c pc' ls' st' s | none => none
def cexec (P : Cl) : Nat → Nat → Me → Nat → Nat → Lv → List Value → St → Rs
  | 0, _, _, _, _, _, _, _ => none
  | f + 1, mi, me, c, pc, ls, st, s => match fetch me.cd pc with
    | none => none
    | some (i, _) => cstep P mi me (fun v s => some (v, s)) (fun m' c as s => match asc P.ms m' with | some me' => (if (layA as).length ≤ me'.ml then cexec P f m' me' c 0 (lay as me'.ml) [] s else none) | none => none) (cexec P f mi me) i c pc ls st s
def ccall (P : Cl) (f m' c : Nat) (as : List Value) (s : St) : Rs := match asc P.ms m' with | some me' => (if (layA as).length ≤ me'.ml then cexec P f m' me' c 0 (lay as me'.ml) [] s else none) | none => none
end Jvm.LM

namespace Jvm.LM
open Sem ClassFile Op Lib Jvm.Stand Jvm.Free Jvm.LawKit Jvm.RoadKit
/-! how the machine's state stands in the heap -/
theorem adr_ne (a j : Nat) : a + (j + 1) ≠ a := by omega
theorem adr_ne' (a j : Nat) : a ≠ a + (j + 1) := by omega
theorem adr_ne2 (a : Nat) {j k : Nat} (h : j ≠ k) : a + (j + 1) ≠ a + (k + 1) := by omega
def Fval (adr c : Nat) (s : St) (k : Nat) (fe : Fe) : Value :=
  match fe.2.2.1 with
  | 0 => .int (gI s 0 k)
  | 1 => .int (gI s 0 k)
  | 2 => .long (gL s 0 k)
  | j + 3 => if j < c then .ref (adr + (j + 1)) else .null
def elv (tt : Nat) (s : St) (j i : Nat) : Value := if tt = 2 then .long (gL s j i) else .int (gI s j i)
def ARep (Z : State) (h : Heap) (a tt N : Nat) (s : St) (j : Nat) : Prop :=
  ∃ cl : Cell, Arr Z h a cl (tyOf tt) ∧ cl.slots.size = N ∧ ∀ i, i < N → cl.slots[i]? = some (elv tt s j i)
def HRep (P : Cl) (Z : State) (h : Heap) (adr c : Nat) (s : St) : Prop :=
  Exa Z h adr P.nm ∧ (∀ k fe, asc P.fs k = some fe → Fld Z h adr P.nm fe.1 fe.2.1 (Fval adr c s k fe)) ∧
  (∀ (j tt N : Nat), P.al[j]? = some (tt, N) → j < c → ARep Z h (adr + (j + 1)) tt N s (j + 1)) ∧
  (∀ j i, c < j → gI s j i = 0 ∧ gL s j i = 0) ∧ c ≤ P.al.length
def fkTy (P : Cl) : Nat → FieldType
  | 0 => .int
  | 1 => .boolean
  | 2 => .long
  | j + 3 => .array (tyOf ((P.al[j]?.map (·.1)).getD 0))
def yOf (P : Cl) (me : Me) : MethodName := ⟨P.nm, me.nm, me.ds⟩
def LinkC (P : Cl) (Z : State) (a0 : Array Value) : Prop :=
  ((∃ nF, (Cond.instantiable P.nm nF).before a0 Z = true) ∧ (Cond.initialized P.nm).before a0 Z = true) ∧
  (∀ x k, asc P.fx x = some k → ∀ fe, asc P.fs k = some fe → (Cond.fieldLink P.nm x P.nm fe.1 fe.2.1).before a0 Z = true) ∧
  (∀ k fe, asc P.fs k = some fe → (if fe.2.2.2 = true then Cond.laysFinal P.nm P.nm fe.1 fe.2.1 else Cond.lays P.nm P.nm fe.1 fe.2.1).before a0 Z = true) ∧
  (∀ k fe, asc P.fs k = some fe → parseFieldDescriptor fe.2.1 = some (fkTy P fe.2.2.1)) ∧
  (∀ k k' fe fe', asc P.fs k = some fe → asc P.fs k' = some fe' → k ≠ k' → fe.1 ≠ fe'.1 ∧ (3 ≤ fe.2.2.1 → fe.2.2.1 ≠ fe'.2.2.1)) ∧
  (∀ (j tt N : Nat), P.al[j]? = some (tt, N) → tt ≤ 2 ∧ (Cond.arrayClass (tyOf tt)).before a0 Z = true) ∧
  (∀ x v, asc P.kx x = some v → match v with
    | .int z => (Cond.constant P.nm x z).before a0 Z = true
    | .long z => (Cond.constantLong P.nm x z).before a0 Z = true
    | _ => True) ∧
  ((Cond.methodLink P.nm P.oi Lib.objectInit).before a0 Z = true ∧ (Cond.instanceMethod Lib.objectInit).before a0 Z = true ∧ (Cond.code Lib.objectInit ⟨#[0xb1]⟩ 1 none).before a0 Z = true) ∧
  (∀ mi me, asc P.ms mi = some me → ∃ (bytes : ByteArray) (ps : List FieldType), (Cond.code (yOf P me) bytes me.ml (retOf me.rt)).before a0 Z = true ∧
    (∀ pc i n, fetch me.cd pc = some (i, n) → decode bytes pc = .ok (i, n) ∧ (isSw i = true ∨ n = ilen i)) ∧ parseMethodDescriptor me.ds = some ⟨ps, retOf me.rt⟩ ∧ ps.length = me.na) ∧
  (∀ x mi, asc P.mx x = some mi → ∀ me, asc P.ms mi = some me → (Cond.methodLink P.nm x (yOf P me)).before a0 Z = true ∧ (Cond.instanceMethod (yOf P me)).before a0 Z = true ∧
    ((Cond.privateMethod (yOf P me)).before a0 Z = true ∨ ((Cond.declares (yOf P me)).before a0 Z = true ∧ (Cond.selects P.nm (yOf P me) (yOf P me)).before a0 Z = true))) ∧
  plainName P.nm = true ∧ (P.nm ≠ "java/lang/invoke/MethodHandle" ∧ P.nm ≠ "java/lang/invoke/VarHandle") ∧ (∀ me, asc P.ms 0 = some me → me.nm = "<init>")
theorem gI_sI (s : St) (c j : Nat) (v : Int32) (a b : Nat) : gI (sI s c j v) a b = if a = c ∧ b = j then v else gI s a b := rfl
theorem gL_sI (s : St) (c j : Nat) (v : Int32) (a b : Nat) : gL (sI s c j v) a b = gL s a b := rfl
theorem gI_sL (s : St) (c j : Nat) (v : Int64) (a b : Nat) : gI (sL s c j v) a b = gI s a b := rfl
theorem gL_sL (s : St) (c j : Nat) (v : Int64) (a b : Nat) : gL (sL s c j v) a b = if a = c ∧ b = j then v else gL s a b := rfl
theorem laid_of {P : Cl} {Z : State} {a0 : Array Value} (LK : LinkC P Z a0) {k : Nat} {fe : Fe} (hk : asc P.fs k = some fe) : Laid Z a0 P.nm P.nm fe.1 fe.2.1 := by
  have q := LK.2.2.1 k fe hk
  split at q
  · exact Or.inr q
  · exact Or.inl q
/-- a heap that is alike where the object lies -/
theorem HRep.congr {P : Cl} {Z : State} {h h' : Heap} {adr c : Nat} {s : St} (H : HRep P Z h adr c s) (e : ∀ x, adr ≤ x → x < adr + 1 + P.al.length → h'[x]? = h[x]?) : HRep P Z h' adr c s := by
  obtain ⟨h1, h2, h3, h4, h5⟩ := H
  have ea : h'[adr]? = h[adr]? := e adr (Nat.le_refl _) (by omega)
  refine ⟨?_, fun k fe hk => ?_, fun j tt N hj hc => ?_, h4, h5⟩
  · obtain ⟨cell, k, q1, r⟩ := h1; exact ⟨cell, k, by rw [ea]; exact q1, r⟩
  · obtain ⟨cell, cf, k, i, f, q1, r⟩ := h2 k fe hk; exact ⟨cell, cf, k, i, f, by rw [ea]; exact q1, r⟩
  · obtain ⟨cl, ⟨q1, q2⟩, q3⟩ := h3 j tt N hj hc
    exact ⟨cl, ⟨by rw [e _ (by omega) (by omega)]; exact q1, q2⟩, q3⟩
theorem HRep.putFld {P : Cl} {Z : State} {a0 : Array Value} (LK : LinkC P Z a0) {h h' : Heap} {adr c k : Nat} {fe : Fe} {s s' : St} {v : Value} (H : HRep P Z h adr c s) (hk : asc P.fs k = some fe)
    (W : Wr h h' adr (RoadKit.slotOf Z P.nm fe.1 fe.2.1) v) (hv : v = Fval adr c s' k fe) (hI : ∀ a b, (a ≠ 0 ∨ b ≠ k) → gI s' a b = gI s a b ∧ gL s' a b = gL s a b) : HRep P Z h' adr c s' := by
  obtain ⟨h1, h2, h3, h4, h5⟩ := H
  refine ⟨h1.wr W, fun k2 fe2 hk2 => ?_, fun j tt N hj hc => ?_, fun j i hj => ?_, h5⟩
  · by_cases e : k2 = k
    · subst e; cases hk.symm.trans hk2
      rw [← hv]; exact (h2 _ _ hk).same W
    · have hne := (LK.2.2.2.2.1 _ _ _ _ hk2 hk e).1
      have q := (h2 _ _ hk2).other W (Or.inr (slot_ne (laid_of LK hk2) (laid_of LK hk) hne (LK.2.2.2.1 _ _ hk2) (LK.2.2.2.1 _ _ hk)))
      have e2 : Fval adr c s' k2 fe2 = Fval adr c s k2 fe2 := by
        have := hI 0 k2 (Or.inr e)
        simp only [Fval]; split <;> simp [this.1, this.2]
      rw [e2]; exact q
  · obtain ⟨cl, q1, q2, q3⟩ := h3 j tt N hj hc
    refine ⟨cl, q1.other W (adr_ne _ _), q2, fun i hi => ?_⟩
    have := hI (j + 1) i (Or.inl (by omega))
    rw [q3 i hi]; simp only [elv, this.1, this.2]
  · have := hI j i (Or.inl (by omega))
    rw [this.1, this.2]; exact h4 j i hj
theorem HRep.putArr {P : Cl} {Z : State} {h h' : Heap} {adr c a tt N n : Nat} {s s' : St} {v : Value} (H : HRep P Z h adr c s) (ha : P.al[a]? = some (tt, N)) (hac : a < c) (hn : n < N)
    (W : Wr h h' (adr + (a + 1)) n v) (hv : v = elv tt s' (a + 1) n) (hI : ∀ x y, (x ≠ a + 1 ∨ y ≠ n) → gI s' x y = gI s x y ∧ gL s' x y = gL s x y) : HRep P Z h' adr c s' := by
  obtain ⟨h1, h2, h3, h4, h5⟩ := H
  refine ⟨h1.wr W, fun k fe hk => ?_, fun j tt2 N2 hj hc => ?_, fun j i hj => ?_, h5⟩
  · have q := (h2 _ _ hk).other W (Or.inl (adr_ne' _ _))
    have e2 : Fval adr c s' k fe = Fval adr c s k fe := by
      have := hI 0 k (Or.inl (by omega))
      simp only [Fval]; split <;> simp [this.1, this.2]
    rw [e2]; exact q
  · obtain ⟨cl, q1, q2, q3⟩ := h3 j tt2 N2 hj hc
    by_cases e : j = a
    · subst e; cases ha.symm.trans hj
      refine ⟨cl.setSlot n v, q1.same W, by rw [sz_set]; exact q2, fun i hi => ?_⟩
      by_cases ei : i = n
      · subst ei; rw [← hv]; simp [Cell.setSlot, q2, hi]
      · have := hI (j + 1) i (Or.inr ei)
        have q4 := q3 i hi
        simp only [elv, this.1, this.2] at q4 ⊢
        simp only [Cell.setSlot]
        rw [Array.getElem?_setIfInBounds_ne (fun q => ei q.symm)]; exact q4
    · refine ⟨cl, q1.other W (adr_ne2 _ e), q2, fun i hi => ?_⟩
      have := hI (j + 1) i (Or.inl (by omega))
      rw [q3 i hi]; simp only [elv, this.1, this.2]
  · have := hI j i (Or.inl (by omega))
    rw [this.1, this.2]; exact h4 j i hj
theorem HRep.newArr {P : Cl} {Z : State} {a0 : Array Value} (LK : LinkC P Z a0) {h h1 h2 : Heap} {adr c k tt N : Nat} {fe : Fe} {s : St} {n : Int32} {cA : ClassId} (H : HRep P Z h adr c s) (hk : asc P.fs k = some fe) (hkd : fe.2.2.1 = c + 3)
    (ha : P.al[c]? = some (tt, N)) (hn0 : 0 ≤ n.toInt) (hn : n.toInt = N) (hsz : h.size = adr + 1 + c) (E : Ext h h1) (A : Arr Z h1 h.size (newA cA (tyOf tt) n) (tyOf tt)) (W : Wr h1 h2 adr (RoadKit.slotOf Z P.nm fe.1 fe.2.1) (.ref h.size)) : HRep P Z h2 adr (c + 1) s := by
  obtain ⟨g1, g2, g3, g4, g5⟩ := H
  have hc : c < P.al.length := (List.getElem?_eq_some_iff.mp ha).1
  have hNn : n.toNatClampNeg = N := by simp only [Int32.toNatClampNeg]; omega
  have htt := (LK.2.2.2.2.2.1 _ _ _ ha).1
  refine ⟨(g1.ext E).wr W, fun k2 fe2 hk2 => ?_, fun j tt2 N2 hj hjc => ?_, fun j i hj => g4 j i (by omega), hc⟩
  · by_cases e : k2 = k
    · subst e; cases hk.symm.trans hk2
      have q := ((g2 _ _ hk).ext E).same W
      have e2 : Fval adr (c + 1) s k2 fe = .ref h.size := by simp only [Fval, hkd]; rw [if_pos (Nat.lt_succ_self c), hsz]; exact congrArg Value.ref (show adr + (c + 1) = adr + 1 + c by omega)
      rw [e2]; exact q
    · have hne := LK.2.2.2.2.1 _ _ _ _ hk2 hk e
      have q := ((g2 _ _ hk2).ext E).other W (Or.inr (slot_ne (laid_of LK hk2) (laid_of LK hk) hne.1 (LK.2.2.2.1 _ _ hk2) (LK.2.2.2.1 _ _ hk)))
      have e2 : Fval adr (c + 1) s k2 fe2 = Fval adr c s k2 fe2 := by
        simp only [Fval]; split
        · rfl
        · rfl
        · rfl
        · rename_i j hj
          have : j ≠ c := fun q => (hne.2 (by rw [hj]; omega)) (by rw [hj, hkd, q])
          by_cases b : j < c
          · rw [if_pos b, if_pos (by omega)]
          · rw [if_neg b, if_neg (by omega)]
      rw [e2]; exact q
  · by_cases e : j = c
    · subst e; cases ha.symm.trans hj
      have hA : Arr Z h2 h.size (newA cA (tyOf tt) n) (tyOf tt) := A.other W (show h.size ≠ adr by omega)
      refine ⟨newA cA (tyOf tt) n, by rw [show adr + (j + 1) = h.size by omega]; exact hA, by rw [sz_new]; exact hNn, fun i hi => ?_⟩
      have z := g4 (j + 1) i (by omega)
      simp only [newA, hNn, elv, z.1, z.2]
      rw [Array.getElem?_replicate, if_pos hi]
      have : tt = 0 ∨ tt = 1 ∨ tt = 2 := by omega
      rcases this with rfl | rfl | rfl <;> rfl
    · obtain ⟨cl, q1, q2, q3⟩ := g3 j tt2 N2 hj (by omega)
      exact ⟨cl, (q1.ext E).other W (adr_ne _ _), q2, q3⟩
/-- outside the object nothing moves -/
def Kp (h0 h : Heap) (adr n : Nat) : Prop := ∀ x, (x < adr ∨ adr + 1 + n ≤ x) → h[x]? = h0[x]?
theorem Kp.wr {h0 h h' : Heap} {adr n a sl : Nat} {v : Value} (K : Kp h0 h adr n) (W : Wr h h' a sl v) (h1 : adr ≤ a) (h2 : a < adr + 1 + n) : Kp h0 h' adr n := fun x hx => by
  obtain ⟨cell, q1, q2, q3, rfl⟩ := W
  rw [Array.getElem?_setIfInBounds_ne (by omega)]; exact K x hx
theorem Kp.ext {h0 h h' : Heap} {adr n : Nat} (K : Kp h0 h adr n) (E : Ext h h') (h1 : h'.size ≤ adr + 1 + n) (h2 : adr ≤ h.size) : Kp h0 h' adr n := fun x hx => by
  rw [← K x hx]
  by_cases b : x < h.size
  · obtain ⟨c, hc⟩ : ∃ c, h[x]? = some c := ⟨h[x], Array.getElem?_eq_getElem b⟩
    rw [hc]; exact E.2 _ _ hc
  · rw [Array.getElem?_eq_none (by omega), Array.getElem?_eq_none (by omega)]
theorem Kp.trans {h0 h h' : Heap} {adr n : Nat} (K : Kp h0 h adr n) (K' : Kp h h' adr n) : Kp h0 h' adr n := fun x hx => (K' x hx).trans (K x hx)
def cRoom (P : Cl) (mi : Nat) (me : Me) : Room := { frames := me.rf, cells := if mi = 0 then P.al.length else 0, slots := if mi = 0 then zs P.al P.al.length else 0, locals := me.rl }
def QC (P : Cl) (Z : State) (n0 adr mi c : Nat) (w : Option Value) (s' : St) (h0 : Heap) (v : Option Value) (h : Heap) (L : List Loc) : Prop :=
  (v = w ∧ ∀ ρ, v.toList.map (va ρ) = v.toList) ∧ Fr n0 L ∧ HRep P Z h adr (if mi = 0 then P.al.length else c) s' ∧ Kp h0 h adr P.al.length ∧ h.size = (if mi = 0 then adr + 1 + P.al.length else h0.size)
/-- the run from S ends, and so -/
def Don (p : Program) (e : Env) (below : List Frame) (s₀ : State) (rm : Room) (Q : Option Value → Heap → List Loc → Prop) (S : State) : Prop :=
  ∃ s₂ o, Steps p.tables e below S s₂ ∧ s₂.status = .running ∧ Ended s₂ below o ∧ ∃ v L, o = .returned v ∧ Q v s₂.heap L ∧ FrameEnd s₀ o s₂ L rm.cells rm.slots
theorem Don.step {p : Program} {e : Env} {below : List Frame} {s₀ : State} {rm : Room} {Q : Option Value → Heap → List Loc → Prop} {S S' : State} (h : ∀ t, Steps p.tables e below S' t → Steps p.tables e below S t) (D : Don p e below s₀ rm Q S') : Don p e below s₀ rm Q S := by
  obtain ⟨s₂, o, h1, h2⟩ := D; exact ⟨s₂, o, h _ h1, h2⟩
def Inv (P : Cl) (Z : State) (n0 adr mi c : Nat) (s : St) (h0 h : Heap) (locs : List Loc) : Prop :=
  HRep P Z h adr c s ∧ Fr n0 locs ∧ Kp h0 h adr P.al.length ∧ h.size = (if mi = 0 then adr + 1 + c else h0.size)
def co (mi c : Nat) : Nat := if mi = 0 then c else 0
def zo (P : Cl) (mi c : Nat) : Nat := if mi = 0 then zs P.al c else 0
/-- what the walk of a body is to show, at a given fuel -/
def CW (P : Cl) (Z : State) (n0 adr f mi : Nat) (me : Me) : Prop :=
  ∀ (p : Program) (l : Launch) (e : Env) (s₀ : State) (m : MethodId) (args : Array Value) (below : List Frame) (meth : Method) (cd : Code) (T : State) (locs : List Loc) (h0 : Heap) (c pc : Nat) (ls : Lv) (st : List Value) (s : St) (v : Option Value) (s' : St) (L : Array Slot),
    p.tables.exec = Jvm.exec → Z.Warmed39 s₀.vm → s₀.vm.findClass P.nm = some m.cls → meth.name = me.nm → meth.sig.returnType = retOf me.rt → cd.maxLocals = me.ml → meth.locks = false → (mi = 0 → s₀.heap.size = adr + 1) →
    (∀ pc i n, fetch me.cd pc = some (i, n) → decode cd.code pc = .ok (i, n) ∧ (isSw i = true ∨ n = ilen i)) →
    cexec P f mi me c pc ls st s = some (v, s') →
    Stand p l e (cRoom P mi me) s₀ m args below meth cd T locs (co mi c) (zo P mi c) →
    Inv P Z n0 adr mi c s h0 T.heap locs → LR (adr + ·) ls L → ls.length = me.ml →
    Don p e below s₀ (cRoom P mi me) (QC P Z n0 adr mi c v s' h0) (T.setTop (mkF m pc L (st.map (va (adr + ·)))))
theorem zs_mono (al : List (Nat × Nat)) {a b : Nat} (h : a ≤ b) : zs al a ≤ zs al b := by
  obtain ⟨d, rfl⟩ := Nat.le.dest h
  simp only [zs]
  rw [List.take_add, List.map_append, List.sum_append]; omega
theorem zs_succ (al : List (Nat × Nat)) {c tt N : Nat} (h : al[c]? = some (tt, N)) : zs al (c + 1) = zs al c + N := by
  simp only [zs, List.take_add_one, h]; simp
theorem zs_le (al : List (Nat × Nat)) (a : Nat) : zs al a ≤ zs al al.length := by
  by_cases h : a ≤ al.length
  · exact zs_mono al h
  · simp only [zs]; rw [List.take_of_length_le (by omega), List.take_of_length_le (Nat.le_refl _)]
    exact Nat.le_refl _
theorem narrow_I (z : Int32) : narrow .int (.int z) = .int z := rfl
theorem inb_not {n : Nat} {i : Int32} (h : inb n i) : ¬ (i < 0 ∨ n ≤ i.toNatClampNeg) := by
  intro q
  simp only [Int32.lt_iff_toInt_lt, Int32.toNatClampNeg, Int32.reduceToInt] at q
  have := h.1; have := h.2
  omega
theorem inb_ix {n : Nat} {i : Int32} (h : inb n i) : ix i < n := by
  have := h.1; have := h.2
  simp only [ix, Int32.toNatClampNeg]; omega
end Jvm.LM

namespace Jvm.LM
open Sem ClassFile Op Lib Jvm.Stand Jvm.Free Jvm.LawKit Jvm.RoadKit
/-! entering a method -/
def slA : List Value → List Slot
  | [] => []
  | v :: r => if v.category = 2 then .val v :: .second :: slA r else .val v :: slA r
theorem foldl_slA (as : List Value) (acc : Array Slot) : as.foldl (fun acc v => if v.category = 2 then (acc.push (.val v)).push .second else acc.push (.val v)) acc = acc ++ (slA as).toArray := by
  induction as generalizing acc with
  | nil => simp [slA]
  | cons v r ih =>
    rw [List.foldl_cons, ih]
    simp only [slA]
    split <;> simp
theorem al_eq (args : Array Value) (n : Nat) : argsToLocals args n = (let filled := args.foldl (init := #[]) fun acc v => if v.category = 2 then (acc.push (.val v)).push .second else acc.push (.val v); filled ++ Array.replicate (n - filled.size) .unset) := rfl
theorem atl_eq (as : List Value) (n : Nat) : argsToLocals as.toArray n = (slA as ++ List.replicate (n - (slA as).length) Slot.unset).toArray := by
  rw [al_eq]
  have : Array.foldl (fun acc v => if v.category = 2 then (acc.push (Slot.val v)).push .second else acc.push (.val v)) #[] as.toArray = (slA as).toArray := by
    rw [List.foldl_toArray, foldl_slA]; simp
  simp only [this]
  simp
theorem wfl_one {x : Slot} {l : List Slot} (h : WFf (fun k => l[k]?)) (hx : x ≠ .second) (hc : ∀ v, x = .val v → v.category ≠ 2) : WFf (fun k => (x :: l)[k]?) := by
  obtain ⟨h1, h2, h3⟩ := h
  refine ⟨fun k v hk hv => ?_, fun k hk => ?_, ?_⟩
  · cases k with
    | zero => simp at hk; exact absurd hv (hc v hk)
    | succ k => simp at hk ⊢; exact h1 k v hk hv
  · cases k with
    | zero => simp at hk; exact absurd (by simpa using hk) h3
    | succ k => simp at hk ⊢; exact h2 k (by simpa using hk)
  · simpa using hx
theorem wfl_two {v : Value} {l : List Slot} (h : WFf (fun k => l[k]?)) (hc : v.category = 2) : WFf (fun k => (Slot.val v :: .second :: l)[k]?) := by
  obtain ⟨h1, h2, h3⟩ := h
  refine ⟨fun k w hk hv => ?_, fun k hk => ?_, by simp⟩
  · match k with
    | 0 => simp
    | 1 => simp at hk
    | k + 2 => simp at hk ⊢; exact h1 k w hk hv
  · match k with
    | 0 => exact ⟨v, by simp, hc⟩
    | 1 => exact absurd (by simpa using hk) h3
    | k + 2 => simp at hk ⊢; exact h2 k (by simpa using hk)
theorem wfl_rep (n : Nat) : WFf (fun k => (List.replicate n Slot.unset)[k]?) := by
  refine ⟨fun k v hk _ => ?_, fun k hk => ?_, ?_⟩
  · simp [List.getElem?_replicate] at hk
  · simp [List.getElem?_replicate] at hk
  · simp [List.getElem?_replicate]
theorem wfl_slA (as : List Value) (r : List Slot) (h : WFf (fun k => r[k]?)) : WFf (fun k => (slA as ++ r)[k]?) := by
  induction as with
  | nil => simpa [slA] using h
  | cons v t ih =>
    simp only [slA]
    split
    · rename_i hc; exact wfl_two ih hc
    · rename_i hc; exact wfl_one ih (by simp) (fun w hw => by cases hw; exact hc)
theorem slA_len (ρ : Nat → Nat) (as : List Value) (hd : ∀ v ∈ as, ∀ x, v ≠ .double x) : (slA (as.map (va ρ))).length = (layA as).length := by
  induction as with
  | nil => rfl
  | cons v t ih =>
    have ih := ih fun w hw => hd w (List.mem_cons_of_mem _ hw)
    cases v <;> simp [slA, layA, va, Value.category, ih]
    exact absurd rfl (hd _ (List.mem_cons_self ..) _)
theorem layA_get {ρ : Nat → Nat} {as : List Value} (hd : ∀ v ∈ as, ∀ x, v ≠ .double x) {k : Nat} {w : Value} (h : (layA as)[k]? = some (some w)) : (slA (as.map (va ρ)))[k]? = some (.val (va ρ w)) := by
  induction as generalizing k with
  | nil => simp [layA] at h
  | cons v t ih =>
    have ih' := fun {k} => ih (k := k) fun w hw => hd w (List.mem_cons_of_mem _ hw)
    cases v
    case long x =>
      simp only [layA] at h
      match k with
      | 0 => simp at h; subst h; simp [slA, va, Value.category]
      | 1 => simp at h
      | k + 2 => simp at h; simpa [slA, va, Value.category] using ih' h
    case double x => exact absurd rfl (hd _ (List.mem_cons_self ..) _)
    all_goals
      simp only [layA] at h
      match k with
      | 0 => simp at h; subst h; simp [slA, va, Value.category]
      | k + 1 => simp at h; simpa [slA, va, Value.category] using ih' h
theorem lay_LR {ρ : Nat → Nat} {as : List Value} (hd : ∀ v ∈ as, ∀ x, v ≠ .double x) {n : Nat} (hn : (layA as).length ≤ n) : LR ρ (lay as n) (argsToLocals (as.map (va ρ)).toArray n) := by
  rw [atl_eq]
  have hl := slA_len ρ as hd
  refine ⟨by simp [lay, hl], fun k w hk => ?_, ?_⟩
  · simp only [lay] at hk
    rw [List.getElem?_append] at hk
    split at hk
    · have := layA_get (ρ := ρ) hd hk
      rw [List.getElem?_toArray, List.getElem?_append_left (by omega)]; exact this
    · simp [List.getElem?_replicate] at hk
  · have := wfl_slA (as.map (va ρ)) (List.replicate (n - (slA (as.map (va ρ))).length) Slot.unset) (wfl_rep _)
    have q : WFf (fun k => ((slA (as.map (va ρ)) ++ List.replicate (n - (slA (as.map (va ρ))).length) Slot.unset).toArray)[k]?) := by
      simpa using this
    exact q
theorem lay_len {as : List Value} {n : Nat} (hn : (layA as).length ≤ n) : (lay as n).length = n := by simp [lay]; omega
section Call
variable {p : Program} {l : Launch} {e : Env} {R : Room} {s : State} {m : MethodId} {args : Array Value} {below : List Frame} {meth : Method} {c : Code} {T : State} {locs : List Loc} {cells slots : Nat}
/-- a private method of a class that is no interface -/
theorem privCall (X : Stand p l e R s m args below meth c T locs cells slots) (hexec : p.tables.exec = Jvm.exec) {own : String} {index : Nat} {y : MethodName} {bytes : ByteArray} {maxL nF : Nat} {ret : Option FieldType}
    (hown : s.vm.findClass own = some m.cls) (hlink : (Cond.methodLink own index y).before args s = true) (hinst : (Cond.instanceMethod y).before args s = true) (hi : (Cond.instantiable y.cls nF).before args s = true)
    (hpriv : s.PrivateAt y) (hcode : (Cond.code y bytes maxL ret).before args s = true) (hy : y.cls ≠ "java/lang/invoke/MethodHandle" ∧ y.cls ≠ "java/lang/invoke/VarHandle")
    {W : Nat} {Pre : Free.Pt → Array Value → Prop} {Post : Free.Pt → Array Value → Option Value → Free.Pt → Prop} (hK : Free.Back l R p e below s args y 3 W Pre Post)
    {g : JFrame} (hg : g.method = m) (hsize : g.locals.size = c.maxLocals) {a : Addr} {cell : Cell} (hcell : T.heap[a]? = some cell) (hobj : ∀ q, cell.vm ≠ .statics q)
    {argsL rest : List Value} (hlen : ∀ sig, parseMethodDescriptor y.desc = some sig → argsL.length = sig.parameters.length)
    (hstack : g.stack = argsL.reverse ++ .ref a :: rest) (hW : 2 * g.monitorRoom + (rest.map fun v => v.category).sum ≤ W) (hdg : decode c.code g.pc = .ok (.invokevirtual index, 3))
    (hpre : ∀ vm₁, s.WarmedH vm₁ → Pre ⟨T.setVm vm₁, locs, cells, slots⟩ (.ref a :: argsL).toArray) :
    ∃ (v : Option Value) (vm₁ : Vm) (B : Free.Pt), s.WarmedH vm₁ ∧ Stand p l e R s m args below meth c B.U B.locs B.cells B.slots ∧ Post ⟨T.setVm vm₁, locs, cells, slots⟩ (.ref a :: argsL).toArray v B ∧
      Steps p.tables e below (T.setTop g) (B.U.setTop { g with pc := g.pc + 3, stack := v.toList ++ rest }) := by
  obtain ⟨mk, mM, hnamed, hmM, hst, hab⟩ := Cond.instanceMethod_spec hinst
  obtain ⟨mM', cM, hmM', -, -, -, -, -, -, hsig⟩ := Cond.code_spec hnamed hcode
  cases hmM.symm.trans hmM'
  obtain ⟨cc, kk, i1, i2, -, i4, -⟩ := Cond.instantiable_spec hi
  cases (findClass_of_methodNamed hnamed).symm.trans i1
  have hni : kk.isInterface = false := by
    cases q : kk.isInterface
    · rfl
    · rw [q] at i4; simp at i4
  have hsel : selectMethod e.platform s.vm cell.cls mk = .method mk := selectMethod_private hmM (hpriv mk mM hnamed hmM)
  obtain ⟨vm₁, X₁, hstep⟩ := X.invokevirtual hexec hown hlink hnamed hmM hst i2 hni hy hcell hobj hsel hmM hab i2 hni (g := g) hg (hlen _ hsig) hstack hdg
  obtain ⟨v, B, X', hpost, hs⟩ := hK m meth c ⟨T.setVm vm₁, locs, cells, slots⟩ { g with stack := rest } (.invokevirtual index) mk (.ref a :: argsL).toArray X₁ hg hsize hdg hW (X₁.named hnamed) (hpre vm₁ X₁.warmed)
  exact ⟨v, vm₁, B, X₁.warmed, X', hpost, hstep _ fun acts => by rw [doInvoke_state]; exact hs⟩
end Call
theorem cats_va (ρ : Nat → Nat) (st : List Value) : ((st.map (va ρ)).map fun v => v.category).sum = cats st := by
  simp only [cats, List.map_map]; congr 1; exact List.map_congr_left fun v _ => cat_va ρ v
/-- what a method of the class keeps, as a contract, from its walk -/
theorem met_of_CW {P : Cl} {Z : State} {a0 : Array Value} (LK : LinkC P Z a0) {n0 adr f mi : Nat} {me : Me} (hme : asc P.ms mi = some me) (hW : CW P Z n0 adr f mi me) (l : Launch) {bytes : ByteArray}
    (hdec : ∀ pc i n, fetch me.cd pc = some (i, n) → decode bytes pc = .ok (i, n) ∧ (isSw i = true ∨ n = ilen i))
    {as : List Value} (hd : ∀ v ∈ as, ∀ x, v ≠ .double x) (hlen : (layA as).length ≤ me.ml) {c : Nat} {s s' : St} {v : Option Value} {h : Heap} (hr : cexec P f mi me c 0 (lay as me.ml) [] s = some (v, s')) (hc : mi = 0 → c = 0)
    (H : HRep P Z h adr c s) (hsz : mi = 0 → h.size = adr + 1) :
    MetFree l (yOf P me) (head1 [Cond.code (yOf P me) bytes me.ml (retOf me.rt)] (cRoom P mi me)) (fun a U => a = (as.map (va (adr + ·))).toArray ∧ Z.Warmed39 U.vm ∧ U.heap = h) (fun _ _ _ _ _ => True)
      (fun _ U o U' => ∃ w L, o = .returned w ∧ QC P Z n0 adr mi c v s' h w U'.heap L ∧ FrameEnd U o U' L (cRoom P mi me).cells (cRoom P mi me).slots) := by
  refine MetFree.of_bodySF (plainFor_of_name LK.2.2.2.2.2.2.2.2.2.2.1) hisR ?_
  intro p e s₀ m args below meth cd s₁ Bd hml hP hK
  obtain ⟨rfl, hZ, hh⟩ := hP
  have e0 : s₁.heap = h := by rw [← hh, Bd.state]; rfl
  have X0 : Stand p l e (cRoom P mi me) s₀ m _ below meth cd s₁ [] 0 0 := Stand.of_body Bd
  have hown : s₀.vm.findClass P.nm = some m.cls := findClass_of_methodNamed Bd.named
  have hnm : meth.name = me.nm := (name_of_methodNamed Bd.named Bd.method).1
  have hk0 : co mi c = 0 := by simp only [co]; split; · rename_i q; exact hc q
                               · rfl
  have hz0 : zo P mi c = 0 := by
    simp only [zo]; split
    · rename_i q; rw [hc q]; simp [zs]
    · rfl
  have D := hW p l e s₀ m _ below meth cd s₁ [] h c 0 (lay as me.ml) [] s v s' _ Bd.exec hZ hown hnm Bd.returns hml Bd.notSynchronized (fun q => by rw [hh]; exact hsz q)
    (fun pc i n q => by rw [Bd.bytes]; exact hdec pc i n q) hr (by rw [hk0, hz0]; exact X0)
    ⟨by rw [e0]; exact H, Fr.nil n0, by rw [e0]; exact fun x _ => rfl, by
      rw [e0]; split
      · rename_i q; rw [hsz q, hc q]
      · rfl⟩ (lay_LR hd hlen) (lay_len hlen)
  obtain ⟨s₂, o, a1, a2, a3, w, L, a4, a5, a6⟩ := D
  exact ⟨s₂, o, a1, a2, a3, w, L, a4, a5, a6⟩
end Jvm.LM

namespace Jvm.LM
open Sem ClassFile Op Lib Jvm.Stand Jvm.Free Jvm.LawKit Jvm.RoadKit
section Steps
variable {p : Program} {l : Launch} {e : Env} {R : Room} {s₀ : State} {m : MethodId} {args : Array Value} {below : List Frame} {meth : Method} {cd : Code} {T : State} {locs : List Loc} {cells slots : Nat}
variable {P : Cl} {Z : State} {a0 : Array Value} {n0 adr c mi : Nat} {s s' : St} {h0 : Heap}
theorem gfld_val {x : Nat} {w : Value} (hg : gfld P x c s = some w) : ∃ k fe, asc P.fx x = some k ∧ asc P.fs k = some fe ∧ Fval adr c s k fe = va (adr + ·) w := by
  unfold gfld at hg
  split at hg
  · cases hg
  · rename_i k e1
    split at hg
    · cases hg
    · rename_i fe e2
      refine ⟨k, fe, e1, e2, ?_⟩
      simp only [Fval]
      split at hg
      · rename_i e3; cases hg; first | rfl | (rw [e3]; rfl)
      · rename_i e3; cases hg; first | rfl | (rw [e3]; rfl)
      · rename_i e3; cases hg; first | rfl | (rw [e3]; rfl)
      · rename_i j e3
        split at hg
        · rename_i e4; cases hg; first | (simp only [if_pos e4]; rfl) | (rw [e3]; simp only [if_pos e4]; rfl)
        · cases hg
theorem st_get (LK : LinkC P Z a0) (X : Stand p l e R s₀ m args below meth cd T locs cells slots) (hx : p.tables.exec = Jvm.exec) (hZ : Z.Warmed39 s₀.vm) (hown : s₀.vm.findClass P.nm = some m.cls) (H : HRep P Z T.heap adr c s) {x pc : Nat} {w : Value} (hg : gfld P x c s = some w)
    (hd : decode cd.code pc = .ok (.getfield x, 3)) {L : Array Slot} {r : List Value} :
    ∃ T', Stand p l e R s₀ m args below meth cd T' locs cells slots ∧ T'.heap = T.heap ∧ ∀ t, Steps p.tables e below (T'.setTop (mkF m (pc + 3) L (va (adr + ·) w :: r))) t → Steps p.tables e below (T.setTop (mkF m pc L (.ref adr :: r))) t := by
  obtain ⟨k, fe, e1, e2, e3⟩ := gfld_val (adr := adr) hg
  have F := H.2.1 k fe e2
  rw [e3] at F
  exact getF X hx hZ hown (host := "") (Or.inl (LK.2.1 _ _ e1 _ e2)) Via.refl rfl F (g := mkF m pc L (.ref adr :: r)) rfl rfl hd
theorem st_put (LK : LinkC P Z a0) (X : Stand p l e R s₀ m args below meth cd T locs cells slots) (hx : p.tables.exec = Jvm.exec) (hZ : Z.Warmed39 s₀.vm) (hown : s₀.vm.findClass P.nm = some m.cls) (hna : n0 ≤ adr) (I : Inv P Z n0 adr mi c s h0 T.heap locs) {x pc : Nat} {w : Value} {ini : Bool} (hini : ini = true → meth.name = "<init>") (hg : pfld P x ini w s = some s')
    (hd : decode cd.code pc = .ok (.putfield x, 3)) {L : Array Slot} {r : List Value} :
    ∃ T' locs', Stand p l e R s₀ m args below meth cd T' locs' cells slots ∧ Inv P Z n0 adr mi c s' h0 T'.heap locs' ∧ ∀ t, Steps p.tables e below (T'.setTop (mkF m (pc + 3) L r)) t → Steps p.tables e below (T.setTop (mkF m pc L (w :: .ref adr :: r))) t := by
  obtain ⟨H, hFr, hK, hS⟩ := I
  obtain ⟨nF, hnF⟩ := LK.1.1
  unfold pfld at hg
  split at hg
  · cases hg
  · rename_i k e1
    split at hg
    · cases hg
    · rename_i fe e2
      split at hg
      · cases hg
      · rename_i e3
        have hL : (Cond.lays P.nm P.nm fe.1 fe.2.1).before a0 Z = true ∨ ((Cond.laysFinal P.nm P.nm fe.1 fe.2.1).before a0 Z = true ∧ P.nm = P.nm ∧ meth.name = "<init>") := by
          have q := LK.2.2.1 k fe e2
          split at q
          · rename_i e4
            refine Or.inr ⟨q, rfl, hini ?_⟩
            cases ini
            · exact absurd ⟨e4, rfl⟩ e3
            · rfl
          · exact Or.inl q
        have hp := LK.2.2.2.1 k fe e2
        have fin : ∀ {T' : State} {h' : Heap} {v' : Value}, Stand p l e R s₀ m args below meth cd T' (locs ++ [⟨adr, RoadKit.slotOf Z P.nm fe.1 fe.2.1⟩]) cells slots → T'.heap = h' → Wr T.heap h' adr (RoadKit.slotOf Z P.nm fe.1 fe.2.1) v' → v' = Fval adr c s' k fe →
            (∀ a b, (a ≠ 0 ∨ b ≠ k) → gI s' a b = gI s a b ∧ gL s' a b = gL s a b) → Inv P Z n0 adr mi c s' h0 T'.heap (locs ++ [⟨adr, RoadKit.slotOf Z P.nm fe.1 fe.2.1⟩]) := fun {T' h' v'} X' e4 W e5 e6 => by
          rw [e4]
          exact ⟨H.putFld LK e2 W e5 e6, Fr.snoc X' hFr hna, hK.wr W (Nat.le_refl _) (by omega), by rw [W.size]; exact hS⟩
        split at hg
        · rename_i z e4
          cases hg
          rw [e4] at hp
          obtain ⟨T', h', X', q1, W, st⟩ := putF X hx hZ hown (host := "") (Or.inl (LK.2.1 _ _ e1 _ e2)) Via.refl rfl (H.2.1 k fe e2) H.1 hL hnF hp (narrow_I z) rfl (g := mkF m pc L (.int z :: .ref adr :: r)) rfl rfl hd
          refine ⟨T', _, X', fin X' q1 W (by simp only [Fval, e4]; simp [gI_sI]) (fun a b hab => ?_), st⟩
          rw [gI_sI, gL_sI, if_neg (by omega)]; exact ⟨rfl, rfl⟩
        · rename_i z e4
          cases hg
          rw [e4] at hp
          obtain ⟨T', h', X', q1, W, st⟩ := putFN X hx hZ hown (LK.2.1 _ _ e1 _ e2) Via.refl rfl (H.2.1 k fe e2) H.1 hL hnF (v' := .int (z &&& 1)) hp rfl (fits_nar_bool z) (g := mkF m pc L (.int z :: .ref adr :: r)) rfl rfl hd
          refine ⟨T', _, X', fin X' q1 W (by simp only [Fval, e4]; simp [gI_sI]) (fun a b hab => ?_), st⟩
          rw [gI_sI, gL_sI, if_neg (by omega)]; exact ⟨rfl, rfl⟩
        · rename_i z e4
          cases hg
          rw [e4] at hp
          obtain ⟨T', h', X', q1, W, st⟩ := putF X hx hZ hown (host := "") (Or.inl (LK.2.1 _ _ e1 _ e2)) Via.refl rfl (H.2.1 k fe e2) H.1 hL hnF hp rfl rfl (g := mkF m pc L (.long z :: .ref adr :: r)) rfl rfl hd
          refine ⟨T', _, X', fin X' q1 W (by simp only [Fval, e4]; simp [gL_sL]) (fun a b hab => ?_), st⟩
          rw [gL_sL, gI_sL, if_neg (by omega)]; exact ⟨rfl, rfl⟩
        · cases hg
theorem lda_spec {tt : Nat} {st st' : List Value} (hl : lda P tt c st s = some st') : ∃ i a r N, st = .int i :: .ref (a + 1) :: r ∧ P.al[a]? = some (tt, N) ∧ a < c ∧ inb N i ∧ st' = elv tt s (a + 1) (ix i) :: r := by
  unfold lda at hl
  split at hl
  · rename_i i a r
    split at hl
    · rename_i t2 N e1
      split at hl
      · rename_i e2
        obtain ⟨rfl, e3⟩ := e2
        split at hl
        · rename_i e4; cases hl; exact ⟨i, a, r, N, rfl, e1, e3, e4, rfl⟩
        · cases hl
      · cases hl
    · cases hl
  · cases hl
theorem va_elv (ρ : Nat → Nat) (tt : Nat) (s : St) (j i : Nat) : va ρ (elv tt s j i) = elv tt s j i := by unfold elv; split <;> rfl
theorem st_lda (X : Stand p l e R s₀ m args below meth cd T locs cells slots) (hx : p.tables.exec = Jvm.exec) (hZ : Z.Warmed39 s₀.vm) (H : HRep P Z T.heap adr c s) {tt pc : Nat} {st st' : List Value} (hl : lda P tt c st s = some st') {i : Instr}
    (hi : (tt = 0 ∧ i = .iaload) ∨ (tt = 1 ∧ i = .baload) ∨ (tt = 2 ∧ i = .laload)) (hd : decode cd.code pc = .ok (i, 1)) {L : Array Slot} :
    ∀ t, Steps p.tables e below (T.setTop (mkF m (pc + 1) L (st'.map (va (adr + ·))))) t → Steps p.tables e below (T.setTop (mkF m pc L (st.map (va (adr + ·))))) t := by
  obtain ⟨j, a, r, N, rfl, e1, e2, e3, rfl⟩ := lda_spec hl
  obtain ⟨cl, A, hN, hv⟩ := H.2.2.1 a tt N e1 e2
  have hin : ¬ (j < 0 ∨ cl.slots.size ≤ j.toNatClampNeg) := by rw [hN]; exact inb_not e3
  have hat : cl.slots[j.toNatClampNeg]? = some (elv tt s (a + 1) (ix j)) := hv (ix j) (inb_ix e3)
  intro t q
  rw [List.map_cons, va_elv] at q
  rcases hi with ⟨rfl, rfl⟩ | ⟨rfl, rfl⟩ | ⟨rfl, rfl⟩
  · exact X.iaload hx A.1 (State.isArrayOf_alike hZ.alike A.2.1) A.2.2 hin hat (g := mkF m pc L (.int j :: .ref (adr + (a + 1)) :: r.map (va (adr + ·)))) rfl rfl hd t q
  · exact X.baloadBooleans hx A.1 (State.isArrayOf_alike hZ.alike A.2.1) A.2.2 hin hat (g := mkF m pc L (.int j :: .ref (adr + (a + 1)) :: r.map (va (adr + ·)))) rfl rfl hd t q
  · exact X.laload hx A.1 (State.isArrayOf_alike hZ.alike A.2.1) A.2.2 hin hat (g := mkF m pc L (.int j :: .ref (adr + (a + 1)) :: r.map (va (adr + ·)))) rfl rfl hd t q
theorem sta_spec {tt : Nat} {st st' : List Value} (hl : sta P tt c st s = some (st', s')) : ∃ v i a N, st = v :: .int i :: .ref (a + 1) :: st' ∧ P.al[a]? = some (tt, N) ∧ a < c ∧ inb N i ∧
    ((tt = 0 ∧ ∃ z, v = .int z ∧ s' = sI s (a + 1) (ix i) z) ∨ (tt = 1 ∧ ∃ z, v = .int z ∧ s' = sI s (a + 1) (ix i) (z &&& 1)) ∨ (tt = 2 ∧ ∃ z, v = .long z ∧ s' = sL s (a + 1) (ix i) z)) := by
  unfold sta at hl
  split at hl
  · rename_i v i a r
    split at hl
    · rename_i t2 N e1
      split at hl
      · rename_i e2
        obtain ⟨rfl, e3⟩ := e2
        split at hl
        · rename_i e4
          split at hl
          · cases hl; exact ⟨_, i, a, N, rfl, e1, e3, e4, Or.inl ⟨rfl, _, rfl, rfl⟩⟩
          · cases hl; exact ⟨_, i, a, N, rfl, e1, e3, e4, Or.inr (Or.inl ⟨rfl, _, rfl, rfl⟩)⟩
          · cases hl; exact ⟨_, i, a, N, rfl, e1, e3, e4, Or.inr (Or.inr ⟨rfl, _, rfl, rfl⟩)⟩
          · cases hl
        · cases hl
      · cases hl
    · cases hl
  · cases hl
theorem st_sta (X : Stand p l e R s₀ m args below meth cd T locs cells slots) (hx : p.tables.exec = Jvm.exec) (hZ : Z.Warmed39 s₀.vm) (hna : n0 ≤ adr) (I : Inv P Z n0 adr mi c s h0 T.heap locs) {tt pc : Nat} {st st' : List Value} (hl : sta P tt c st s = some (st', s')) {i : Instr}
    (hi : (tt = 0 ∧ i = .iastore) ∨ (tt = 1 ∧ i = .bastore) ∨ (tt = 2 ∧ i = .lastore)) (hd : decode cd.code pc = .ok (i, 1)) {L : Array Slot} :
    ∃ T' locs', Stand p l e R s₀ m args below meth cd T' locs' cells slots ∧ Inv P Z n0 adr mi c s' h0 T'.heap locs' ∧ ∀ t, Steps p.tables e below (T'.setTop (mkF m (pc + 1) L (st'.map (va (adr + ·))))) t → Steps p.tables e below (T.setTop (mkF m pc L (st.map (va (adr + ·))))) t := by
  obtain ⟨H, hFr, hK, hS⟩ := I
  obtain ⟨v, j, a, N, rfl, e1, e2, e3, e4⟩ := sta_spec hl
  obtain ⟨cl, A, hN, hv⟩ := H.2.2.1 a tt N e1 e2
  have hin : ¬ (j < 0 ∨ cl.slots.size ≤ j.toNatClampNeg) := by rw [hN]; exact inb_not e3
  have hal := (List.getElem?_eq_some_iff.mp e1).1
  have fin : ∀ {T' : State} {h' : Heap} {v' : Value}, Stand p l e R s₀ m args below meth cd T' (locs ++ [⟨adr + (a + 1), j.toNatClampNeg⟩]) cells slots → T'.heap = h' → Wr T.heap h' (adr + (a + 1)) j.toNatClampNeg v' → v' = elv tt s' (a + 1) (ix j) →
      (∀ x y, (x ≠ a + 1 ∨ y ≠ ix j) → gI s' x y = gI s x y ∧ gL s' x y = gL s x y) → Inv P Z n0 adr mi c s' h0 T'.heap (locs ++ [⟨adr + (a + 1), j.toNatClampNeg⟩]) := fun {T' h' v'} X' q1 W q2 q3 => by
    rw [q1]
    exact ⟨H.putArr e1 e2 (inb_ix e3) W q2 q3, Fr.snoc X' hFr (by omega), hK.wr W (by omega) (by omega), by rw [W.size]; exact hS⟩
  rcases e4 with ⟨rfl, z, rfl, rfl⟩ | ⟨rfl, z, rfl, rfl⟩ | ⟨rfl, z, rfl, rfl⟩
  · obtain ⟨-, rfl⟩ : (0 : Nat) = 0 ∧ i = .iastore := by rcases hi with q | q | q <;> first | exact q | (have := q.1; omega)
    obtain ⟨T', h', X', q1, W, st⟩ := stI X hx hZ rfl A hin (g := mkF m pc L (.int z :: .int j :: .ref (adr + (a + 1)) :: st'.map (va (adr + ·)))) rfl rfl hd
    refine ⟨T', _, X', fin X' q1 W (by simp [elv, gI_sI, ix]) (fun x y hxy => ?_), st⟩
    rw [gI_sI, gL_sI, if_neg (fun q => hxy.elim (fun z => z q.1) (fun z => z q.2))]; exact ⟨rfl, rfl⟩
  · obtain ⟨-, rfl⟩ : (1 : Nat) = 1 ∧ i = .bastore := by rcases hi with q | q | q <;> first | exact q | (have := q.1; omega)
    obtain ⟨T', h', X', q1, W, st⟩ := stZ X hx hZ rfl A hin (g := mkF m pc L (.int z :: .int j :: .ref (adr + (a + 1)) :: st'.map (va (adr + ·)))) rfl rfl hd
    refine ⟨T', _, X', fin X' q1 W (by simp [elv, gI_sI, ix, nar]) (fun x y hxy => ?_), st⟩
    rw [gI_sI, gL_sI, if_neg (fun q => hxy.elim (fun z => z q.1) (fun z => z q.2))]; exact ⟨rfl, rfl⟩
  · obtain ⟨-, rfl⟩ : (2 : Nat) = 2 ∧ i = .lastore := by rcases hi with q | q | q <;> first | exact q | (have := q.1; omega)
    obtain ⟨T', h', X', q1, W, st⟩ := stJ X hx hZ rfl A hin (g := mkF m pc L (.long z :: .int j :: .ref (adr + (a + 1)) :: st'.map (va (adr + ·)))) rfl rfl hd
    refine ⟨T', _, X', fin X' q1 W (by simp [elv, gL_sL, ix]) (fun x y hxy => ?_), st⟩
    rw [gL_sL, gI_sL, if_neg (fun q => hxy.elim (fun z => z q.1) (fun z => z q.2))]; exact ⟨rfl, rfl⟩
theorem newF_spec {t : ArrayType} {code : Cd} {pc : Nat} {st : List Value} (h : newF P t code pc c st = true) : ∃ n x k fe tt N, st = [.int n, .ref 0] ∧ fetch code (pc + 2) = some (.putfield x, 3) ∧ asc P.fx x = some k ∧ asc P.fs k = some fe ∧ P.al[c]? = some (tt, N) ∧
    fe.2.2.1 = c + 3 ∧ t = atOf tt ∧ 0 ≤ n.toInt ∧ n.toInt = N ∧ N < 1000000 := by
  unfold newF at h
  split at h
  · rename_i n
    split at h
    · rename_i x e1
      split at h
      · rename_i k e2
        split at h
        · rename_i fe e3
          split at h
          · rename_i tt N e4
            obtain ⟨q1, q2, q3, q4, q5⟩ := of_decide_eq_true h
            exact ⟨n, x, k, fe, tt, N, rfl, e1, e2, e3, e4, q1, q2, q3, q4, q5⟩
          · cases h
        · cases h
      · cases h
    · cases h
  · cases h
theorem ty_at {tt : Nat} (h : tt ≤ 2) : newarray.typeOf (atOf tt) = tyOf tt := by
  have : tt = 0 ∨ tt = 1 ∨ tt = 2 := by omega
  rcases this with rfl | rfl | rfl <;> rfl
theorem st_new (LK : LinkC P Z a0) {me : Me} (hme : asc P.ms 0 = some me) (hnm : meth.name = me.nm) (X : Stand p l e (cRoom P 0 me) s₀ m args below meth cd T locs (co 0 c) (zo P 0 c)) (hx : p.tables.exec = Jvm.exec) (hZ : Z.Warmed39 s₀.vm) (hown : s₀.vm.findClass P.nm = some m.cls) (hna : n0 ≤ adr) (hs0 : s₀.heap.size = adr + 1) (I : Inv P Z n0 adr 0 c s h0 T.heap locs)
    (hdec : ∀ pc i n, fetch me.cd pc = some (i, n) → decode cd.code pc = .ok (i, n) ∧ (isSw i = true ∨ n = ilen i)) {t : ArrayType} {pc : Nat} {st : List Value} (h : newF P t me.cd pc c st = true) (hd : decode cd.code pc = .ok (.newarray t, 2)) {L : Array Slot} :
    ∃ T' locs', Stand p l e (cRoom P 0 me) s₀ m args below meth cd T' locs' (co 0 (c + 1)) (zo P 0 (c + 1)) ∧ Inv P Z n0 adr 0 (c + 1) s h0 T'.heap locs' ∧ ∀ t, Steps p.tables e below (T'.setTop (mkF m (pc + 5) L [])) t → Steps p.tables e below (T.setTop (mkF m pc L (st.map (va (adr + ·))))) t := by
  obtain ⟨H, hFr, hK, hS⟩ := I
  obtain ⟨nF, hnF⟩ := LK.1.1
  obtain ⟨n, x, k, fe, tt, N, rfl, e1, e2, e3, e4, e5, rfl, e6, e7, e8⟩ := newF_spec h
  obtain ⟨htt, hac⟩ := LK.2.2.2.2.2.1 _ _ _ e4
  have hal := (List.getElem?_eq_some_iff.mp e4).1
  have hS' : T.heap.size = adr + 1 + c := hS
  have hty := ty_at htt
  have hini : meth.name = "<init>" := by rw [hnm]; exact LK.2.2.2.2.2.2.2.2.2.2.2.2 me hme
  have hLy : (Cond.lays P.nm P.nm fe.1 fe.2.1).before a0 Z = true ∨ ((Cond.laysFinal P.nm P.nm fe.1 fe.2.1).before a0 Z = true ∧ P.nm = P.nm ∧ meth.name = "<init>") := by
    have q := LK.2.2.1 k fe e3
    split at q
    · exact Or.inr ⟨q, rfl, hini⟩
    · exact Or.inl q
  have hzc := zs_succ P.al e4
  have hzm := zs_le P.al (c + 1)
  obtain ⟨T1, hp1, cA, X1, q1, E, A, st1⟩ := newP X hx hZ (aty := atOf tt) (by rw [hty]; exact hac) rfl (g := mkF m pc L [.int n, .ref adr]) rfl hd rfl (by rw [Int32.lt_iff_toInt_lt]; simp only [Int32.reduceToInt]; omega) (cap := N)
    (by simp only [Int32.toNatClampNeg]; omega) (by omega) (by simp only [co, cRoom, if_true]; omega) (by simp only [zo, cRoom, if_true]; omega)
  rw [hty] at A
  have hp := LK.2.2.2.1 k fe e3
  rw [e5] at hp
  obtain ⟨d2, -⟩ := hdec _ _ _ e1
  have hsz1 : hp1.size = adr + 1 + (c + 1) := by
    have hh : T1.heap.size ≤ s₀.heap.size + (c + 1) := X1.heapSize
    have g2 : T.heap.size < Array.size hp1 := A.lt
    rw [q1, hs0] at hh
    rw [hS'] at g2
    omega
  obtain ⟨T2, hp2, X2, q2, W, st2⟩ := putF X1 hx hZ hown (host := "") (Or.inl (LK.2.1 _ _ e2 _ e3)) Via.refl q1 ((H.2.1 k fe e3).ext E) (H.1.ext E) hLy hnF (v := .ref T.heap.size) hp rfl rfl (g := mkF m (pc + 2) L [.ref T.heap.size, .ref adr]) rfl rfl d2
  refine ⟨T2, _, by simpa [co, zo, hzc] using X2, ?_, fun t q => st1 _ (st2 _ q)⟩
  rw [q2]
  refine ⟨H.newArr LK e3 e5 e4 e6 e7 hS' E A W, Fr.snoc X2 hFr hna, ?_, by rw [W.size, hsz1]; simp⟩
  exact (hK.ext E (by rw [hsz1]; omega) (by omega)).wr W (Nat.le_refl _) (by omega)
end Steps
end Jvm.LM

namespace Jvm.LM
open Sem ClassFile Op Lib Jvm.Stand Jvm.Free Jvm.LawKit Jvm.RoadKit
theorem cret_spec {me : Me} {st : List Value} {i : Instr} {v : Option Value} (h : cret me st i = some v) :
    (∃ x, i = .ireturn ∧ st = [.int x] ∧ ((me.rt = 1 ∧ v = some (.int x)) ∨ (me.rt = 2 ∧ v = some (.int (x &&& 1))))) ∨ (∃ x, i = .lreturn ∧ st = [.long x] ∧ me.rt = 3 ∧ v = some (.long x)) ∨ (i = .return_ ∧ st = [] ∧ me.rt = 0 ∧ v = none) := by
  unfold cret at h
  split at h
  · split at h
    · rename_i x
      split at h
      · rename_i e1; cases h; exact Or.inl ⟨x, rfl, rfl, Or.inl ⟨e1, rfl⟩⟩
      · split at h
        · rename_i e1; cases h; exact Or.inl ⟨x, rfl, rfl, Or.inr ⟨e1, rfl⟩⟩
        · cases h
    · cases h
  · split at h
    · rename_i x
      split at h
      · rename_i e1; cases h; exact Or.inr (Or.inl ⟨x, rfl, rfl, e1, rfl⟩)
      · cases h
    · cases h
  · split at h
    · split at h
      · rename_i e1; cases h; exact Or.inr (Or.inr ⟨rfl, rfl, e1, rfl⟩)
      · cases h
    · cases h
  · cases h
section Ret
variable {p : Program} {l : Launch} {e : Env} {R : Room} {s₀ : State} {m : MethodId} {args : Array Value} {below : List Frame} {meth : Method} {cd : Code} {T : State} {locs : List Loc} {cells slots : Nat}
theorem retI' (X : Stand p l e R s₀ m args below meth cd T locs cells slots) (hx : p.tables.exec = Jvm.exec) {pc : Nat} {Ls : Array Slot} {z : Int32} {rest : List Value} (hret : meth.sig.returnType = some .int) (hd : decode cd.code pc = .ok (.ireturn, 1)) {fs : List Frame}
    (hl : ∀ (f : JFrame) (acts : List Action), f.method = m → f.locked = none → f.entered = [] → (doReturn e (T.setTop f) acts (some (.int z))).1 = T.setFrames fs) : Steps p.tables e below (T.setTop (mkF m pc Ls (.int z :: rest))) (T.setFrames fs) :=
  retOut X hx (t := .int) (i := .ireturn) hret rfl (Or.inl ⟨rfl, Or.inl rfl, z, rfl⟩) hd hl
theorem st_ret (X : Stand p l e R s₀ m args below meth cd T locs cells slots) (hx : p.tables.exec = Jvm.exec) {me : Me} (hret : meth.sig.returnType = retOf me.rt) (hlk : meth.locks = false) {ρ : Nat → Nat} {st : List Value} {i : Instr} {v : Option Value} (h : cret me st i = some v) {pc n : Nat} (hd : decode cd.code pc = .ok (i, n)) (hn : isSw i = true ∨ n = ilen i)
    {Q : Option Value → Heap → List Loc → Prop} (hQ : Q v T.heap locs) (hc : cells ≤ R.cells) (hs : slots ≤ R.slots) {L : Array Slot} : Don p e below s₀ R Q (T.setTop (mkF m pc L (st.map (va ρ)))) := by
  rcases cret_spec h with ⟨x, rfl, rfl, h1⟩ | ⟨x, rfl, rfl, h1, rfl⟩ | ⟨rfl, rfl, h1, rfl⟩
  · obtain rfl := hn.resolve_left Bool.false_ne_true
    rcases h1 with ⟨h1, rfl⟩ | ⟨h1, rfl⟩
    · rw [h1] at hret
      obtain ⟨fs, hr, hrun, hended, hW, hsame⟩ := X.leave (v := some (.int x)) (fun q => by rw [hret] at q; cases q) hlk
      exact ⟨_, _, retI' X hx hret hd hr, hrun, hended, _, _, rfl, hQ, ⟨_, rfl⟩, hW, hsame.mono hc hs⟩
    · rw [h1] at hret
      obtain ⟨fs, hr, hrun, hended, hW, hsame⟩ := X.leave (v := some (.int (x &&& 1))) (fun q => by rw [hret] at q; cases q) hlk
      exact ⟨_, _, retN X hx (t := .boolean) hret (Or.inl rfl) hd hr, hrun, hended, _, _, rfl, hQ, ⟨_, rfl⟩, hW, hsame.mono hc hs⟩
  · obtain rfl := hn.resolve_left Bool.false_ne_true
    rw [h1] at hret
    obtain ⟨fs, hr, hrun, hended, hW, hsame⟩ := X.leave (v := some (.long x)) (fun q => by rw [hret] at q; cases q) hlk
    exact ⟨_, _, retOut X hx (t := .long) (i := .lreturn) hret rfl (Or.inr (Or.inl ⟨rfl, rfl, x, rfl⟩)) hd hr, hrun, hended, _, _, rfl, hQ, ⟨_, rfl⟩, hW, hsame.mono hc hs⟩
  · obtain rfl := hn.resolve_left Bool.false_ne_true
    rw [h1] at hret
    obtain ⟨fs, hr, hrun, hended, hW, hsame⟩ := X.leave (v := none) (fun _ => rfl) hlk
    exact ⟨_, _, X.returnOut hx hret hd hr, hrun, hended, _, _, rfl, hQ, ⟨_, rfl⟩, hW, hsame.mono hc hs⟩
end Ret
theorem cret_va {me : Me} {st : List Value} {i : Instr} {v : Option Value} (h : cret me st i = some v) (ρ : Nat → Nat) : v.toList.map (va ρ) = v.toList := by
  rcases cret_spec h with ⟨x, rfl, rfl, ⟨-, rfl⟩ | ⟨-, rfl⟩⟩ | ⟨x, rfl, rfl, -, rfl⟩ | ⟨rfl, rfl, -, rfl⟩ <;> rfl
theorem nd_rev {ρ : Nat → Nat} {as : List Value} (h : nd as = true) : ∀ v ∈ (Value.ref 0 :: as.reverse), ∀ x, v ≠ .double x := fun v hv x e => by
  rcases List.mem_cons.mp hv with q | q
  · subst q; cases e
  · exact nd_spec h v (List.mem_reverse.mp q) x e
theorem pfld_va {P : Cl} {x : Nat} {ini : Bool} {w : Value} {s s1 : St} (hg : pfld P x ini w s = some s1) (ρ : Nat → Nat) : va ρ w = w := by
  cases w <;> first | rfl | skip
  exfalso
  unfold pfld at hg
  split at hg
  · cases hg
  · split at hg
    · cases hg
    · split at hg
      · cases hg
      · split at hg
        · rename_i q; cases q
        · rename_i q; cases q
        · rename_i q; cases q
        · cases hg
theorem cwalk {P : Cl} {Z : State} {a0 : Array Value} (LK : LinkC P Z a0) {n0 adr : Nat} (hna : n0 ≤ adr) : ∀ f mi me, asc P.ms mi = some me → CW P Z n0 adr f mi me := by
  intro f
  induction f with
  | zero =>
    intro mi me hme p l e s₀ m args below meth cd T locs h0 c pc ls st s v s' L hx hZ hown hnm hret hml hlk hs0 hdec hr
    cases hr
  | succ f ih =>
    intro mi me hme p l e s₀ m args below meth cd T locs h0 c pc ls st s v s' L hx hZ hown hnm hret hml hlk hs0 hdec hr X I hL hlen
    simp only [cexec] at hr
    split at hr
    · cases hr
    · rename_i i n hf
      obtain ⟨hd, hn⟩ := hdec pc i n hf
      have ihk := ih mi me hme
      have hsize : L.size = cd.maxLocals := by rw [hL.1, hlen, hml]
      obtain ⟨nF, hnF⟩ := LK.1.1
      unfold cstep at hr
      split at hr
      -- getfield
      · obtain rfl := hn.resolve_left Bool.false_ne_true
        split at hr
        · rename_i r
          split at hr
          · rename_i w hg
            obtain ⟨T', X', q1, st⟩ := st_get LK X hx hZ hown I.1 hg hd (L := L) (r := r.map (va (adr + ·)))
            exact Don.step st (ihk p l e s₀ m args below meth cd T' locs h0 c _ ls (w :: r) s v s' L hx hZ hown hnm hret hml hlk hs0 hdec hr X' (by rw [q1]; exact I) hL hlen)
          · cases hr
        · cases hr
      -- putfield
      · obtain rfl := hn.resolve_left Bool.false_ne_true
        split at hr
        · rename_i w r
          split at hr
          · rename_i s1 hg
            have hini : (mi == 0) = true → meth.name = "<init>" := fun q => by
              have q : mi = 0 := by simpa using q
              subst q; rw [hnm]; exact LK.2.2.2.2.2.2.2.2.2.2.2.2 me hme
            have hw : va (adr + ·) w = w := pfld_va hg _
            obtain ⟨T', locs', X', I', st⟩ := st_put LK X hx hZ hown hna I hini hg hd (L := L) (r := r.map (va (adr + ·)))
            refine Don.step (fun t q => ?_) (ihk p l e s₀ m args below meth cd T' locs' h0 c _ ls r s1 v s' L hx hZ hown hnm hret hml hlk hs0 hdec hr X' I' hL hlen)
            have := st t q
            rw [List.map_cons, hw]; exact this
          · cases hr
        · cases hr
      -- loads of arrays
      · obtain rfl := hn.resolve_left Bool.false_ne_true
        split at hr
        · rename_i st' hg
          exact Don.step (st_lda X hx hZ I.1 hg (Or.inl ⟨rfl, rfl⟩) hd) (ihk p l e s₀ m args below meth cd T locs h0 c _ ls st' s v s' L hx hZ hown hnm hret hml hlk hs0 hdec hr X I hL hlen)
        · cases hr
      · obtain rfl := hn.resolve_left Bool.false_ne_true
        split at hr
        · rename_i st' hg
          exact Don.step (st_lda X hx hZ I.1 hg (Or.inr (Or.inl ⟨rfl, rfl⟩)) hd) (ihk p l e s₀ m args below meth cd T locs h0 c _ ls st' s v s' L hx hZ hown hnm hret hml hlk hs0 hdec hr X I hL hlen)
        · cases hr
      · obtain rfl := hn.resolve_left Bool.false_ne_true
        split at hr
        · rename_i st' hg
          exact Don.step (st_lda X hx hZ I.1 hg (Or.inr (Or.inr ⟨rfl, rfl⟩)) hd) (ihk p l e s₀ m args below meth cd T locs h0 c _ ls st' s v s' L hx hZ hown hnm hret hml hlk hs0 hdec hr X I hL hlen)
        · cases hr
      -- stores into arrays
      · obtain rfl := hn.resolve_left Bool.false_ne_true
        split at hr
        · rename_i st' s1 hg
          obtain ⟨T', locs', X', I', st⟩ := st_sta X hx hZ hna I hg (Or.inl ⟨rfl, rfl⟩) hd (L := L)
          exact Don.step st (ihk p l e s₀ m args below meth cd T' locs' h0 c _ ls st' s1 v s' L hx hZ hown hnm hret hml hlk hs0 hdec hr X' I' hL hlen)
        · cases hr
      · obtain rfl := hn.resolve_left Bool.false_ne_true
        split at hr
        · rename_i st' s1 hg
          obtain ⟨T', locs', X', I', st⟩ := st_sta X hx hZ hna I hg (Or.inr (Or.inl ⟨rfl, rfl⟩)) hd (L := L)
          exact Don.step st (ihk p l e s₀ m args below meth cd T' locs' h0 c _ ls st' s1 v s' L hx hZ hown hnm hret hml hlk hs0 hdec hr X' I' hL hlen)
        · cases hr
      · obtain rfl := hn.resolve_left Bool.false_ne_true
        split at hr
        · rename_i st' s1 hg
          obtain ⟨T', locs', X', I', st⟩ := st_sta X hx hZ hna I hg (Or.inr (Or.inr ⟨rfl, rfl⟩)) hd (L := L)
          exact Don.step st (ihk p l e s₀ m args below meth cd T' locs' h0 c _ ls st' s1 v s' L hx hZ hown hnm hret hml hlk hs0 hdec hr X' I' hL hlen)
        · cases hr
      -- newarray and putfield
      · obtain rfl := hn.resolve_left Bool.false_ne_true
        split at hr
        · rename_i hg
          obtain ⟨rfl, hg⟩ := hg
          obtain ⟨T', locs', X', I', st⟩ := st_new LK hme hnm X hx hZ hown hna (hs0 rfl) I hdec hg hd (L := L)
          exact Don.step st (ihk p l e s₀ m args below meth cd T' locs' h0 (c + 1) _ ls [] s v s' L hx hZ hown hnm hret hml hlk hs0 hdec hr X' I' hL hlen)
        · cases hr
      -- constants
      · obtain rfl := hn.resolve_left Bool.false_ne_true
        split at hr
        · rename_i z hg
          exact Don.step (fun t q => X.ldcI hx hown (mv hZ (LK.2.2.2.2.2.2.1 _ _ hg)) (g := mkF m pc L (st.map (va (adr + ·)))) rfl hd q) (ihk p l e s₀ m args below meth cd T locs h0 c _ ls (.int z :: st) s v s' L hx hZ hown hnm hret hml hlk hs0 hdec hr X I hL hlen)
        · cases hr
      · obtain rfl := hn.resolve_left Bool.false_ne_true
        split at hr
        · rename_i z hg
          exact Don.step (fun t q => X.ldc2J hx hown (mv hZ (LK.2.2.2.2.2.2.1 _ _ hg)) (g := mkF m pc L (st.map (va (adr + ·)))) rfl hd q) (ihk p l e s₀ m args below meth cd T locs h0 c _ ls (.long z :: st) s v s' L hx hZ hown hnm hret hml hlk hs0 hdec hr X I hL hlen)
        · cases hr
      -- Object's constructor
      · obtain rfl := hn.resolve_left Bool.false_ne_true
        split at hr
        · rename_i r
          split at hr
          · rename_i hg
            obtain ⟨rfl, hg1, hg2⟩ := hg
            obtain ⟨w1, w2, w3⟩ := LK.2.2.2.2.2.2.2.1
            obtain ⟨T', X', q1, st⟩ := initO X hx hZ hown w1 w2 w3 rfl (g := mkF m pc L (.ref adr :: r.map (va (adr + ·)))) rfl hsize rfl hd hg1 (W := cats r) (by show 2 * 0 + _ ≤ _; rw [cats_va]; omega) hg2
            exact Don.step st (ihk p l e s₀ m args below meth cd T' locs h0 c _ ls r s v s' L hx hZ hown hnm hret hml hlk hs0 hdec hr X' (by rw [q1]; exact I) hL hlen)
          · cases hr
        · cases hr
      -- a call
      · obtain rfl := hn.resolve_left Bool.false_ne_true
        split at hr
        · cases hr
        · rename_i m' hm'
          split at hr
          · cases hr
          · rename_i me' hme'
            split at hr
            · rename_i r hst
              split at hr
              · rename_i hg
                obtain ⟨hg0, hg1, hg2, hg3⟩ := hg
                dsimp only at hr
                rw [hme'] at hr
                dsimp only at hr
                obtain ⟨bytes, ps, hcode, hdec', hpar, hpl⟩ := LK.2.2.2.2.2.2.2.2.1 m' me' hme'
                obtain ⟨w1, w2, w3⟩ := LK.2.2.2.2.2.2.2.2.2.1 _ _ hm' _ hme'
                by_cases hla : (layA (Value.ref 0 :: (st.take me'.na).reverse)).length ≤ me'.ml
                · rw [if_pos hla] at hr
                  cases hcl : cexec P f m' me' c 0 (lay (.ref 0 :: (st.take me'.na).reverse) me'.ml) [] s with
                  | none => rw [hcl] at hr; cases hr
                  | some vs =>
                    obtain ⟨w, s1⟩ := vs
                    rw [hcl] at hr
                    have hr' : cexec P f mi me c (pc + 3) ls (w.toList ++ r) s1 = some (v, s') := by cases w <;> exact hr
                    have hM := met_of_CW LK hme' (ih m' me' hme') l hdec' (as := .ref 0 :: (st.take me'.na).reverse) (nd_rev (ρ := id) hg3) hla hcl (fun q => absurd q hg0) I.1 (fun q => absurd q hg0)
                    have hB := backOf (R := cRoom P mi me) (p := p) (e := e) (below := below) (s := s₀) (args := args) (len := 3) (W := cats r) hM hZ hcode LK.1.2 hg1 hg2
                    have hdl : me'.na < st.length := by
                      have := congrArg List.length hst
                      simp at this; omega
                    have hsp : st = st.take me'.na ++ .ref 0 :: r := by rw [← hst, List.take_append_drop]
                    have hcell := I.1.1.cell
                    obtain ⟨cel, hc1, hc2⟩ := hcell
                    have key : ∃ (v' : Option Value) (U : State) (Lc : List Loc), Stand p l e (cRoom P mi me) s₀ m args below meth cd U (locs ++ Lc) (co mi c) (zo P mi c) ∧ QC P Z n0 adr m' c w s1 T.heap v' U.heap Lc ∧
                        Steps p.tables e below (T.setTop (mkF m pc L (st.map (va (adr + ·))))) (U.setTop (mkF m (pc + 3) L (v'.toList ++ r.map (va (adr + ·))))) := by
                      have hsm : st.map (va (adr + ·)) = ((st.take me'.na).reverse.map (va (adr + ·))).reverse ++ .ref adr :: r.map (va (adr + ·)) := by
                        conv => lhs; rw [hsp]
                        simp [va]
                      have hll : ∀ sig, parseMethodDescriptor (yOf P me').desc = some sig → ((st.take me'.na).reverse.map (va (adr + ·))).length = sig.parameters.length := lenOf hpar (by simp [hpl]; omega)
                      have hpre : ∀ vm₁, s₀.WarmedH vm₁ → ((Value.ref adr :: (st.take me'.na).reverse.map (va (adr + ·))).toArray = ((Value.ref 0 :: (st.take me'.na).reverse).map (va (adr + ·))).toArray ∧ (T.setVm vm₁).heap = T.heap ∧ co mi c + (cRoom P m' me').cells ≤ (cRoom P mi me).cells ∧ zo P mi c + (cRoom P m' me').slots ≤ (cRoom P mi me).slots) := fun vm₁ _ => by
                        refine ⟨by simp [va], rfl, ?_, ?_⟩
                        · simp only [co, cRoom, if_neg hg0]
                          have := I.1.2.2.2.2
                          split <;> omega
                        · simp only [zo, cRoom, if_neg hg0]
                          have := zs_le P.al c
                          split <;> omega
                      have hz1 : (cRoom P m' me').cells = 0 := by simp [cRoom, hg0]
                      have hz2 : (cRoom P m' me').slots = 0 := by simp [cRoom, hg0]
                      rcases w3 with w3 | ⟨w3, w4⟩
                      · obtain ⟨v', vm₁, ⟨U, lo, ce, sl⟩, -, X', ⟨Lc, hQ, l1, l2, l3⟩, stp⟩ := privCall X hx (y := yOf P me') hown (mv hZ w1) (mv hZ w2) (nF := nF) (mv hZ hnF) (Cond.privateMethod_at (mvP hZ w3 (args := args))) (mv hZ hcode) LK.2.2.2.2.2.2.2.2.2.2.2.1 hB (g := mkF m pc L (st.map (va (adr + ·)))) rfl hsize hc1 hc2 hll hsm (by show 2 * 0 + _ ≤ _; rw [cats_va]; omega) hd hpre
                        dsimp only [Pt.U, Pt.locs, Pt.cells, Pt.slots] at X' hQ l1 l2 l3 stp
                        subst l1 l2 l3
                        rw [hz1, hz2] at X'
                        exact ⟨v', U, Lc, X', hQ, stp⟩
                      · obtain ⟨cq, kq, qa, qb, qc⟩ := isOf hZ rfl I.1.1
                        obtain ⟨v', vm₁, ⟨U, lo, ce, sl⟩, -, X', ⟨Lc, hQ, l1, l2, l3⟩, stp⟩ := X.virtualBack hx (y := yOf P me') (z := yOf P me') hown (mv hZ w1) (mv hZ w3) (notFace_of_selects (args := #[]) (mv hZ w4)) (mv hZ w4) (mv hZ w2) LK.2.2.2.2.2.2.2.2.2.2.2.1 hB qa qc (g := mkF m pc L (st.map (va (adr + ·)))) rfl hsize (Steps.refl _) hll hsm (by show 2 * 0 + _ ≤ _; rw [cats_va]; omega) hd hpre
                        dsimp only [Pt.U, Pt.locs, Pt.cells, Pt.slots] at X' hQ l1 l2 l3 stp
                        subst l1 l2 l3
                        rw [hz1, hz2] at X'
                        exact ⟨v', U, Lc, X', hQ, stp⟩
                    obtain ⟨v', U, Lc, X', ⟨⟨rfl, hva⟩, hF', hH', hK', hS'⟩, stp⟩ := key
                    rw [if_neg hg0] at hH' hS'
                    refine Don.step (fun t q => stp.trans ?_) (ihk p l e s₀ m args below meth cd U (locs ++ Lc) h0 c _ ls (v'.toList ++ r) s1 v s' L hx hZ hown hnm hret hml hlk hs0 hdec hr' X' ⟨hH', I.2.1.app hF', I.2.2.1.trans hK', by rw [hS']; exact I.2.2.2⟩ hL hlen)
                    rw [List.map_append, hva] at q; exact q
                · rw [if_neg hla] at hr; cases hr
              · cases hr
            · cases hr
      -- the rest
      · split at hr
        · split at hr
          · cases hr
          · rename_i h1 hcf
            split at hr
            · rename_i w hw
              cases hr
              have hcf' : mi = 0 → c = P.al.length := fun q => Classical.byContradiction fun z => hcf ⟨q, z⟩
              have hA : HRep P Z T.heap adr (if mi = 0 then P.al.length else c) s := by
                by_cases q : mi = 0
                · rw [if_pos q, ← hcf' q]; exact I.1
                · rw [if_neg q]; exact I.1
              have hB : Array.size T.heap = if mi = 0 then adr + 1 + P.al.length else Array.size h0 := by
                rw [I.2.2.2]
                by_cases q : mi = 0
                · rw [if_pos q, if_pos q, ← hcf' q]
                · rw [if_neg q, if_neg q]
              have hC : co mi c ≤ (cRoom P mi me).cells := by
                simp only [co, cRoom]
                by_cases q : mi = 0
                · rw [if_pos q, if_pos q, ← hcf' q]; exact Nat.le_refl _
                · rw [if_neg q, if_neg q]; exact Nat.le_refl _
              have hD : zo P mi c ≤ (cRoom P mi me).slots := by
                simp only [zo, cRoom]
                by_cases q : mi = 0
                · rw [if_pos q, if_pos q]; exact zs_le _ _
                · rw [if_neg q, if_neg q]; exact Nat.le_refl _
              exact st_ret X hx hret hlk hw hd hn ⟨⟨rfl, cret_va hw⟩, I.2.1, hA, I.2.2.1, hB⟩ hC hD
            · cases hr
        · split at hr
          · rename_i pc' ls' st' hp
            obtain ⟨L', hL', hLs, st⟩ := pstep_sound X hx hp hd hn hL
            have hlen' : ls'.length = me.ml := by rw [← hL'.1, hLs, hL.1]; exact hlen
            exact Don.step st (ihk p l e s₀ m args below meth cd T locs h0 c _ ls' st' s v s' L' hx hZ hown hnm hret hml hlk hs0 hdec hr X I hL' hlen')
          · cases hr
end Jvm.LM

namespace Jvm.LM
open Sem ClassFile Op Lib Jvm.Stand Jvm.Free Jvm.LawKit Jvm.RoadKit
/-! the law's machine: several objects of the class, and one array of ints that it only reads -/
/-- class name, pool to own static method, pool to the class's method, pool index of the constructor, of the class, number of its fields, constants, methods, room: cells, slots -/
abbrev Lw := String × List (Nat × Nat) × List (Nat × Nat) × Nat × Nat × Nat × List (Nat × Value) × List (Nat × Me) × Nat × Nat
def Lw.nm (Q : Lw) : String := Q.1
def Lw.sx (Q : Lw) : List (Nat × Nat) := Q.2.1
def Lw.vx (Q : Lw) : List (Nat × Nat) := Q.2.2.1
def Lw.ci (Q : Lw) : Nat := Q.2.2.2.1
def Lw.cx (Q : Lw) : Nat := Q.2.2.2.2.1
def Lw.nf (Q : Lw) : Nat := Q.2.2.2.2.2.1
def Lw.kx (Q : Lw) : List (Nat × Value) := Q.2.2.2.2.2.2.1
def Lw.ms (Q : Lw) : List (Nat × Me) := Q.2.2.2.2.2.2.2.1
def Lw.rc (Q : Lw) : Nat := Q.2.2.2.2.2.2.2.2.1
def Lw.rs (Q : Lw) : Nat := Q.2.2.2.2.2.2.2.2.2
/-- the objects, how many are made, whether one more is being made -/
abbrev Wd := (Nat → St) × Nat × Bool
abbrev Sc := Option (Nat × (Nat → Int32))
abbrev Rw := Option (Option Value × Wd)
def nr : List Value → Bool
  | [] => true
  | .int _ :: r => nr r
  | .long _ :: r => nr r
  | _ => false
theorem nr_map {l : List Value} (h : nr l = true) (ρ : Nat → Nat) : l.map (va ρ) = l := by
  induction l with
  | nil => rfl
  | cons v r ih => cases v <;> first | (simp only [nr] at h; simp [va, ih h]; done) | (simp [nr] at h)
theorem nr_nd {l : List Value} (h : nr l = true) : nd l = true := by
  induction l with
  | nil => rfl
  | cons v r ih => cases v <;> first | (simp only [nr] at h; simp [nd, ih h]; done) | (simp [nr] at h)
def uo (w : Nat → St) (o : Nat) (s : St) : Nat → St := fun i => if i = o then s else w i
def lstep {α : Type} (P : Cl) (Q : Lw) (sc : Sc) (mi : Nat) (me : Me) (rt : Option Value → Wd → Option α) (cc : Nat → Nat → List Value → St → Rs) (cl : Nat → List Value → Wd → Rw) (k : Nat → Lv → List Value → Wd → Option α) (i : Instr) (pc : Nat) (ls : Lv) (st : List Value) (w : Wd) : Option α :=
  match i with
  | .iaload => match sc, st with
    | some (n, g), .int j :: .ref 0 :: r => if inb n j then k (pc + 1) ls (.int (g (ix j)) :: r) w else none
    | _, _ => none
  | .arraylength => match sc, st with
    | some (n, _), .ref 0 :: r => k (pc + 1) ls (.int (Int32.ofNat n) :: r) w
    | _, _ => none
  | .ldc x => match asc Q.kx x with | some (.int z) => k (pc + 2) ls (.int z :: st) w | _ => none
  | .ldc2_w x => match asc Q.kx x with | some (.long z) => k (pc + 3) ls (.long z :: st) w | _ => none
  | .new x => if mi = 0 ∧ x = Q.cx ∧ w.2.2 = false ∧ (w.2.1 + 1) * (P.al.length + 1) ≤ Q.rc ∧ (w.2.1 + 1) * (Q.nf + zs P.al P.al.length) ≤ Q.rs then
      k (pc + 3) ls (.ref (w.2.1 + 1) :: st) (uo w.1 w.2.1 s0, w.2.1, true) else none
  | .invokespecial x => match asc P.ms 0 with
    | none => none
    | some me' => match st.drop me'.na with
      | .ref (o + 1) :: r => if x = Q.ci ∧ mi = 0 ∧ o = w.2.1 ∧ w.2.2 = true ∧ me'.rf + 1 ≤ me.rf ∧ cats r + (me'.ml + 11) + me'.rl ≤ me.rl ∧ nr (st.take me'.na) = true ∧ (w.2.1 + 1) * (P.al.length + 1) ≤ Q.rc ∧ (w.2.1 + 1) * (Q.nf + zs P.al P.al.length) ≤ Q.rs then
          (match cc 0 0 (.ref 0 :: (st.take me'.na).reverse) (w.1 o) with
           | some (none, s') => k (pc + 3) ls r (uo w.1 o s', w.2.1 + 1, false)
           | _ => none) else none
      | _ => none
  | .invokevirtual x => match asc Q.vx x with
    | none => none
    | some m' => match asc P.ms m' with
      | none => none
      | some me' => match st.drop me'.na with
        | .ref (o + 1) :: r => if m' ≠ 0 ∧ o < w.2.1 ∧ me'.rf + 1 ≤ me.rf ∧ cats r + (me'.ml + 11) + me'.rl ≤ me.rl ∧ nr (st.take me'.na) = true then
            (match cc m' P.al.length (.ref 0 :: (st.take me'.na).reverse) (w.1 o) with
             | some (none, s') => k (pc + 3) ls r (uo w.1 o s', w.2.1, w.2.2)
             | some (some v, s') => k (pc + 3) ls (v :: r) (uo w.1 o s', w.2.1, w.2.2)
             | none => none) else none
        | _ => none
  | .invokestatic x => match asc Q.sx x with
    | none => none
    | some m' => match asc Q.ms m' with
      | none => none
      | some me' => if m' ≠ 0 ∧ me'.na ≤ st.length ∧ me'.rf + 1 ≤ me.rf ∧ cats (st.drop me'.na) + (me'.ml + 11) + me'.rl ≤ me.rl ∧ nd (st.take me'.na) = true then
          (match cl m' (st.take me'.na).reverse w with
           | some (none, w') => k (pc + 3) ls (st.drop me'.na) w'
           | some (some v, w') => k (pc + 3) ls (v :: st.drop me'.na) w'
           | none => none) else none
  | i => if isRet i = true then (match cret me st i with | some v => rt v w | none => none)
    else match pstep i pc ls st with | some (pc', ls', st') => k pc' ls' st' w | none => none
def lexec (P : Cl) (Q : Lw) (sc : Sc) : Nat → Nat → Me → Nat → Lv → List Value → Wd → Rw
  | 0, _, _, _, _, _, _ => none
  | f + 1, mi, me, pc, ls, st, w => match fetch me.cd pc with
    | none => none
    | some (i, _) => lstep P Q sc mi me (fun v w => some (v, w)) (ccall P f) (fun m' as w => match asc Q.ms m' with | some me' => (if (layA as).length ≤ me'.ml then lexec P Q sc f m' me' 0 (lay as me'.ml) [] w else none) | none => none) (lexec P Q sc f mi me) i pc ls st w
theorem lexec_cnt {P : Cl} {Q : Lw} {sc : Sc} : ∀ f mi me pc ls st w v w', mi ≠ 0 → lexec P Q sc f mi me pc ls st w = some (v, w') → w'.2 = w.2 := by
  intro f
  induction f with
  | zero => intro mi me pc ls st w v w' _ h; cases h
  | succ f ih =>
    intro mi me pc ls st w v w' h0 h
    simp only [lexec] at h
    split at h
    · cases h
    · unfold lstep at h
      split at h
      · split at h
        · split at h
          · exact ih _ _ _ _ _ _ _ _ h0 h
          · cases h
        · cases h
      · split at h
        · exact ih _ _ _ _ _ _ _ _ h0 h
        · cases h
      · split at h
        · exact ih _ _ _ _ _ _ _ _ h0 h
        · cases h
      · split at h
        · exact ih _ _ _ _ _ _ _ _ h0 h
        · cases h
      · split at h
        · rename_i q; exact absurd q.1 h0
        · cases h
      · split at h
        · cases h
        · split at h
          · split at h
            · rename_i q; exact absurd q.2.1 h0
            · cases h
          · cases h
      · split at h
        · cases h
        · split at h
          · cases h
          · split at h
            · split at h
              · split at h
                · exact (ih _ _ _ _ _ _ _ _ h0 h).trans rfl
                · exact (ih _ _ _ _ _ _ _ _ h0 h).trans rfl
                · cases h
              · cases h
            · cases h
      · split at h
        · cases h
        · split at h
          · cases h
          · rename_i me' hme'
            split at h
            · rename_i hg
              dsimp only at h
              rw [hme'] at h
              dsimp only at h
              split at h
              · rename_i w2 hc
                split at hc
                · exact (ih _ _ _ _ _ _ _ _ h0 h).trans (ih _ _ _ _ _ _ _ _ hg.1 hc)
                · cases hc
              · rename_i u w2 hc
                split at hc
                · exact (ih _ _ _ _ _ _ _ _ h0 h).trans (ih _ _ _ _ _ _ _ _ hg.1 hc)
                · cases hc
              · cases h
            · cases h
      · split at h
        · split at h
          · cases h; rfl
          · cases h
        · split at h
          · exact ih _ _ _ _ _ _ _ _ h0 h
          · cases h
def lcall (P : Cl) (Q : Lw) (sc : Sc) (f m' : Nat) (as : List Value) (w : Wd) : Rw := match asc Q.ms m' with | some me' => (if (layA as).length ≤ me'.ml then lexec P Q sc f m' me' 0 (lay as me'.ml) [] w else none) | none => none
def zOf (Q : Lw) (me : Me) : MethodName := ⟨Q.nm, me.nm, me.ds⟩
def LinkL (P : Cl) (Q : Lw) (Z : State) (a0 : Array Value) : Prop :=
  ((Cond.classLink Q.nm Q.cx P.nm).before a0 Z = true ∧ (Cond.instantiable P.nm Q.nf).before a0 Z = true) ∧
  (∀ me, asc P.ms 0 = some me → (Cond.methodLink Q.nm Q.ci (yOf P me)).before a0 Z = true ∧ (Cond.instanceMethod (yOf P me)).before a0 Z = true ∧ me.rt = 0) ∧
  (∀ x m', asc Q.vx x = some m' → ∀ me, asc P.ms m' = some me → (Cond.methodLink Q.nm x (yOf P me)).before a0 Z = true ∧ (Cond.declares (yOf P me)).before a0 Z = true ∧ (Cond.instanceMethod (yOf P me)).before a0 Z = true ∧ (Cond.selects P.nm (yOf P me) (yOf P me)).before a0 Z = true) ∧
  (∀ x m', asc Q.sx x = some m' → ∀ me, asc Q.ms m' = some me → (Cond.methodLink Q.nm x (zOf Q me)).before a0 Z = true ∧ (Cond.static (zOf Q me)).before a0 Z = true ∧ (Cond.initialized Q.nm).before a0 Z = true) ∧
  (∀ x v, asc Q.kx x = some v → match v with
    | .int z => (Cond.constant Q.nm x z).before a0 Z = true
    | .long z => (Cond.constantLong Q.nm x z).before a0 Z = true
    | _ => True) ∧
  (∀ mi me, asc Q.ms mi = some me → mi ≠ 0 → ∃ (bytes : ByteArray) (ps : List FieldType), (Cond.code (zOf Q me) bytes me.ml (retOf me.rt)).before a0 Z = true ∧
    (∀ pc i n, fetch me.cd pc = some (i, n) → decode bytes pc = .ok (i, n) ∧ (isSw i = true ∨ n = ilen i)) ∧ parseMethodDescriptor me.ds = some ⟨ps, retOf me.rt⟩ ∧ ps.length = me.na) ∧
  plainName Q.nm = true ∧ (Q.nm ≠ "java/lang/invoke/MethodHandle" ∧ Q.nm ≠ "java/lang/invoke/VarHandle")
def rho (a n0 K : Nat) : Nat → Nat
  | 0 => a
  | o + 1 => n0 + o * K
def SRep (Z : State) (h : Heap) (a n0 : Nat) (sc : Sc) : Prop :=
  match sc with
  | none => True
  | some (n, g) => a < n0 ∧ ∃ cl : Cell, Arr Z h a cl .int ∧ cl.slots.size = n ∧ ∀ i, i < n → cl.slots[i]? = some (.int (g i))
def LRep (P : Cl) (Z : State) (h : Heap) (a n0 : Nat) (sc : Sc) (w : Wd) : Prop :=
  SRep Z h a n0 sc ∧ (∀ o, o < w.2.1 → HRep P Z h (n0 + o * (P.al.length + 1)) P.al.length (w.1 o)) ∧
  (w.2.2 = true → HRep P Z h (n0 + w.2.1 * (P.al.length + 1)) 0 (w.1 w.2.1)) ∧ h.size = n0 + w.2.1 * (P.al.length + 1) + (if w.2.2 = true then 1 else 0)
def lRoom (Q : Lw) (mi : Nat) (me : Me) : Room := { frames := me.rf, cells := if mi = 0 then Q.rc else 0, slots := if mi = 0 then Q.rs else 0, locals := me.rl }
def QL (P : Cl) (Z : State) (a n0 : Nat) (sc : Sc) (v : Option Value) (w' : Wd) (u : Option Value) (h : Heap) (L : List Loc) : Prop :=
  (u = v ∧ ∀ ρ, u.toList.map (va ρ) = u.toList) ∧ Fr n0 L ∧ LRep P Z h a n0 sc w'
def lco (P : Cl) (mi : Nat) (w : Wd) : Nat := if mi = 0 then w.2.1 * (P.al.length + 1) + (if w.2.2 = true then 1 else 0) else 0
def lzo (P : Cl) (Q : Lw) (mi : Nat) (w : Wd) : Nat := if mi = 0 then w.2.1 * (Q.nf + zs P.al P.al.length) + (if w.2.2 = true then Q.nf else 0) else 0
def LW (P : Cl) (Q : Lw) (sc : Sc) (Z : State) (a n0 f mi : Nat) (me : Me) : Prop :=
  ∀ (p : Program) (l : Launch) (e : Env) (s₀ : State) (m : MethodId) (args : Array Value) (below : List Frame) (meth : Method) (cd : Code) (T : State) (locs : List Loc) (pc : Nat) (ls : Lv) (st : List Value) (w : Wd) (v : Option Value) (w' : Wd) (L : Array Slot),
    p.tables.exec = Jvm.exec → Z.Warmed39 s₀.vm → s₀.vm.findClass Q.nm = some m.cls → meth.sig.returnType = retOf me.rt → cd.maxLocals = me.ml → meth.locks = false → (mi = 0 → s₀.heap.size = n0) →
    (∀ pc i n, fetch me.cd pc = some (i, n) → decode cd.code pc = .ok (i, n) ∧ (isSw i = true ∨ n = ilen i)) →
    lexec P Q sc f mi me pc ls st w = some (v, w') →
    Stand p l e (lRoom Q mi me) s₀ m args below meth cd T locs (lco P mi w) (lzo P Q mi w) → w.2.1 * (P.al.length + 1) + (if w.2.2 = true then 1 else 0) ≤ (lRoom Q 0 me).cells → w.2.1 * (Q.nf + zs P.al P.al.length) + (if w.2.2 = true then Q.nf else 0) ≤ (lRoom Q 0 me).slots →
    LRep P Z T.heap a n0 sc w → Fr n0 locs → LR (rho a n0 (P.al.length + 1)) ls L → ls.length = me.ml →
    Don p e below s₀ (lRoom Q mi me) (QL P Z a n0 sc v w') (T.setTop (mkF m pc L (st.map (va (rho a n0 (P.al.length + 1))))))
theorem met_of_LW {P : Cl} {Q : Lw} {sc : Sc} {Z : State} {a0 : Array Value} (LL : LinkL P Q Z a0) {a n0 f mi : Nat} {me : Me} (hW : LW P Q sc Z a n0 f mi me) (hmi : mi ≠ 0) (l : Launch) {bytes : ByteArray}
    (hdec : ∀ pc i n, fetch me.cd pc = some (i, n) → decode bytes pc = .ok (i, n) ∧ (isSw i = true ∨ n = ilen i))
    {as : List Value} (hd : ∀ v ∈ as, ∀ x, v ≠ .double x) (hlen : (layA as).length ≤ me.ml) {w w' : Wd} {v : Option Value} {h : Heap} (hr : lexec P Q sc f mi me 0 (lay as me.ml) [] w = some (v, w'))
    (hc1 : w.2.1 * (P.al.length + 1) + (if w.2.2 = true then 1 else 0) ≤ Q.rc) (hc2 : w.2.1 * (Q.nf + zs P.al P.al.length) + (if w.2.2 = true then Q.nf else 0) ≤ Q.rs)
    (H : LRep P Z h a n0 sc w) :
    MetFree l (zOf Q me) (head1 [Cond.code (zOf Q me) bytes me.ml (retOf me.rt)] (lRoom Q mi me)) (fun b U => b = (as.map (va (rho a n0 (P.al.length + 1)))).toArray ∧ Z.Warmed39 U.vm ∧ U.heap = h) (fun _ _ _ _ _ => True)
      (fun _ U o U' => ∃ u L, o = .returned u ∧ QL P Z a n0 sc v w' u U'.heap L ∧ FrameEnd U o U' L (lRoom Q mi me).cells (lRoom Q mi me).slots) := by
  refine MetFree.of_bodySF (plainFor_of_name LL.2.2.2.2.2.2.1) hisR ?_
  intro p e s₀ m args below meth cd s₁ Bd hml hP hK
  obtain ⟨rfl, hZ, hh⟩ := hP
  have e0 : s₁.heap = h := by rw [← hh, Bd.state]; rfl
  have X0 : Stand p l e (lRoom Q mi me) s₀ m _ below meth cd s₁ [] 0 0 := Stand.of_body Bd
  have hown : s₀.vm.findClass Q.nm = some m.cls := findClass_of_methodNamed Bd.named
  have hk0 : lco P mi w = 0 := by simp [lco, hmi]
  have hz0 : lzo P Q mi w = 0 := by simp [lzo, hmi]
  have D := hW p l e s₀ m _ below meth cd s₁ [] 0 (lay as me.ml) [] w v w' _ Bd.exec hZ hown Bd.returns hml Bd.notSynchronized (fun q => absurd q hmi)
    (fun pc i n q => by rw [Bd.bytes]; exact hdec pc i n q) hr (by rw [hk0, hz0]; exact X0) (by simpa [lRoom] using hc1) (by simpa [lRoom] using hc2) (by rw [e0]; exact H) (Fr.nil n0) (lay_LR hd hlen) (lay_len hlen)
  obtain ⟨s₂, o, a1, a2, a3, u, L, a4, a5, a6⟩ := D
  exact ⟨s₂, o, a1, a2, a3, u, L, a4, a5, a6⟩
end Jvm.LM

namespace Jvm.LM
open Sem ClassFile Op Lib Jvm.Stand Jvm.Free Jvm.LawKit Jvm.RoadKit
theorem rng {a b K : Nat} (h : a < b) : a * K + K ≤ b * K := by
  have := Nat.mul_le_mul_right K (show a + 1 ≤ b from h)
  rw [Nat.succ_mul] at this; exact this
theorem SRep.congr {Z : State} {h h' : Heap} {a n0 : Nat} {sc : Sc} (H : SRep Z h a n0 sc) (e : ∀ x, x < n0 → h'[x]? = h[x]?) : SRep Z h' a n0 sc := by
  unfold SRep at H ⊢
  split
  · trivial
  · obtain ⟨h1, cl, ⟨q1, q2⟩, q3⟩ := H
    exact ⟨h1, cl, ⟨by rw [e a h1]; exact q1, q2⟩, q3⟩
/-- one object has moved, the others stand -/
theorem LRep.call {P : Cl} {Z : State} {h h' : Heap} {a n0 o : Nat} {sc : Sc} {w : Wd} {s' : St} (H : LRep P Z h a n0 sc w) (ho : o < w.2.1) (K : Kp h h' (n0 + o * (P.al.length + 1)) P.al.length) (hs : h'.size = h.size) (H' : HRep P Z h' (n0 + o * (P.al.length + 1)) P.al.length s') :
    LRep P Z h' a n0 sc (uo w.1 o s', w.2.1, w.2.2) := by
  obtain ⟨h1, h2, h3, h4⟩ := H
  refine ⟨h1.congr fun x hx => K x (Or.inl (by omega)), fun o' ho' => ?_, fun q => ?_, by rw [hs]; exact h4⟩
  · by_cases e : o' = o
    · subst e; simpa [uo] using H'
    · have := (h2 o' ho').congr (h' := h') fun x hx1 hx2 => K x (by
        rcases Nat.lt_or_gt_of_ne e with q | q
        · have := rng (K := P.al.length + 1) q; omega
        · have := rng (K := P.al.length + 1) q; omega)
      simpa [uo, e] using this
  · have e : w.2.1 ≠ o := by omega
    have := (h3 q).congr (h' := h') fun x hx1 hx2 => K x (by have := rng (K := P.al.length + 1) ho; omega)
    simpa [uo, e] using this
theorem ar1 {x k r y : Nat} (e : y = x + (k + 1)) (h : y ≤ r) : x + 1 + k ≤ r := by omega
theorem ar3 {x k y : Nat} (h : y = x + (k + 1)) : y + 0 = x + 1 + k := by omega
theorem ar4 {x f z y : Nat} (h : y = x + (f + z)) : y + 0 = x + f + z := by omega
theorem ar5 {x f z r y : Nat} (e : y = x + (f + z)) (h : y ≤ r) : x + f + z ≤ r := by omega
theorem ar6 {n x k y : Nat} (h : y = x + (k + 1)) : n + x + 1 + k = n + y + 0 := by omega
theorem lwalk {P : Cl} {Q : Lw} {sc : Sc} {Z : State} {a0 : Array Value} (LK : LinkC P Z a0) (LL : LinkL P Q Z a0) {a n0 : Nat} : ∀ f mi me, asc Q.ms mi = some me → LW P Q sc Z a n0 f mi me := by
  intro f
  induction f with
  | zero =>
    intro mi me hme p l e s₀ m args below meth cd T locs pc ls st w v w' L hx hZ hown hret hml hlk hs0 hdec hr
    cases hr
  | succ f ih =>
    intro mi me hme p l e s₀ m args below meth cd T locs pc ls st w v w' L hx hZ hown hret hml hlk hs0 hdec hr X hc1 hc2 I hFr hL hlen
    simp only [lexec] at hr
    split at hr
    · cases hr
    · rename_i i n hf
      obtain ⟨hd, hn⟩ := hdec pc i n hf
      have ihk := ih mi me hme
      have hsize : L.size = cd.maxLocals := by rw [hL.1, hlen, hml]
      unfold lstep at hr
      split at hr
      -- iaload
      · obtain rfl := hn.resolve_left Bool.false_ne_true
        split at hr
        · rename_i N g j r
          split at hr
          · rename_i hin
            obtain ⟨ha, cl, A, hN, hv⟩ : SRep Z T.heap a n0 (some (N, g)) := I.1
            refine Don.step (fun t q => ?_) (ihk p l e s₀ m args below meth cd T locs _ ls (.int (g (ix j)) :: r) w v w' L hx hZ hown hret hml hlk hs0 hdec hr X hc1 hc2 I hFr hL hlen)
            exact X.iaload hx A.1 (State.isArrayOf_alike hZ.alike A.2.1) A.2.2 (by rw [hN]; exact inb_not hin) (hv (ix j) (inb_ix hin)) (g := mkF m pc L (.int j :: .ref a :: r.map (va (rho a n0 (P.al.length + 1))))) rfl rfl hd t q
          · cases hr
        · cases hr
      -- arraylength
      · obtain rfl := hn.resolve_left Bool.false_ne_true
        split at hr
        · rename_i N g r
          obtain ⟨ha, cl, A, hN, hv⟩ : SRep Z T.heap a n0 (some (N, g)) := I.1
          refine Don.step (fun t q => ?_) (ihk p l e s₀ m args below meth cd T locs _ ls (.int (Int32.ofNat N) :: r) w v w' L hx hZ hown hret hml hlk hs0 hdec hr X hc1 hc2 I hFr hL hlen)
          exact X.arraylength hx A.1 (State.isArrayOf_alike hZ.alike A.2.1) (g := mkF m pc L (.ref a :: r.map (va (rho a n0 (P.al.length + 1))))) rfl rfl hd t (by rw [hN]; exact q)
        · cases hr
      -- constants
      · obtain rfl := hn.resolve_left Bool.false_ne_true
        split at hr
        · rename_i z hg
          exact Don.step (fun t q => X.ldcI hx hown (mv hZ (LL.2.2.2.2.1 _ _ hg)) (g := mkF m pc L (st.map (va (rho a n0 (P.al.length + 1))))) rfl hd q) (ihk p l e s₀ m args below meth cd T locs _ ls (.int z :: st) w v w' L hx hZ hown hret hml hlk hs0 hdec hr X hc1 hc2 I hFr hL hlen)
        · cases hr
      · obtain rfl := hn.resolve_left Bool.false_ne_true
        split at hr
        · rename_i z hg
          exact Don.step (fun t q => X.ldc2J hx hown (mv hZ (LL.2.2.2.2.1 _ _ hg)) (g := mkF m pc L (st.map (va (rho a n0 (P.al.length + 1))))) rfl hd q) (ihk p l e s₀ m args below meth cd T locs _ ls (.long z :: st) w v w' L hx hZ hown hret hml hlk hs0 hdec hr X hc1 hc2 I hFr hL hlen)
        · cases hr
      -- new
      · obtain rfl := hn.resolve_left Bool.false_ne_true
        split at hr
        · rename_i hg
          obtain ⟨rfl, rfl, hp, hg1, hg2⟩ := hg
          obtain ⟨os, cnt, pend⟩ := w
          dsimp only at hp hg1 hg2 hr
          subst hp
          have hk : lco P 0 (os, cnt, false) = cnt * (P.al.length + 1) := by simp [lco]
          have hz : lzo P Q 0 (os, cnt, false) = cnt * (Q.nf + zs P.al P.al.length) := by simp [lzo]
          have m1 : (cnt + 1) * (P.al.length + 1) = cnt * (P.al.length + 1) + (P.al.length + 1) := Nat.succ_mul ..
          have m2 : (cnt + 1) * (Q.nf + zs P.al P.al.length) = cnt * (Q.nf + zs P.al P.al.length) + (Q.nf + zs P.al P.al.length) := Nat.succ_mul ..
          rw [hk, hz] at X
          obtain ⟨T', h', X', q1, E, A, D, -, st1⟩ := newO X hx hZ hown LL.1.1 LL.1.2 LK.1.2 rfl (g := mkF m pc L (st.map (va (rho a n0 (P.al.length + 1))))) rfl hd (by simp only [lRoom, if_true]; omega) (by simp only [lRoom, if_true]; omega)
          obtain ⟨i1, i2, i3, i4⟩ := I
          have hsz : T.heap.size = n0 + cnt * (P.al.length + 1) := by simpa using i4
          have hsz' : h'.size = n0 + cnt * (P.al.length + 1) + 1 := by
            have g1 : T'.heap.size ≤ s₀.heap.size + (cnt * (P.al.length + 1) + 1) := X'.heapSize
            have g2 : T.heap.size < Array.size h' := A.lt
            rw [q1, hs0 rfl] at g1
            rw [hsz] at g2
            omega
          have same : ∀ x, x < T.heap.size → h'[x]? = T.heap[x]? := fun x hx => by
            obtain ⟨cc, hcc⟩ : ∃ cc, T.heap[x]? = some cc := ⟨T.heap[x], Array.getElem?_eq_getElem hx⟩
            rw [hcc]; exact E.2 _ _ hcc
          have I' : LRep P Z T'.heap a n0 sc (uo os cnt s0, cnt, true) := by
            rw [q1]
            refine ⟨i1.congr fun x hx => same x (by omega), fun o ho => ?_, fun _ => ?_, by simpa using hsz'⟩
            · have := (i2 o ho).congr (h' := h') fun x hx1 hx2 => same x (by have := rng (K := P.al.length + 1) (show o < cnt from ho); omega)
              simpa [uo, show o ≠ cnt from Nat.ne_of_lt ho] using this
            · simp only [uo, if_true]
              rw [hsz] at A D
              refine ⟨A, fun k fe hk => ?_, fun j tt N hj hc => absurd hc (Nat.not_lt_zero _), fun j i hj => ⟨rfl, rfl⟩, Nat.zero_le _⟩
              have q := D (laid_of LK hk) (LK.2.2.2.1 k fe hk)
              have e2 : Fval (n0 + cnt * (P.al.length + 1)) 0 s0 k fe = defaultValue (fkTy P fe.2.2.1) := by
                simp only [Fval]; split
                · rename_i e3; rw [e3]; rfl
                · rename_i e3; rw [e3]; rfl
                · rename_i e3; rw [e3]; rfl
                · rename_i e3; rw [e3]; rfl
              rw [e2]; exact q
          refine Don.step (fun t q => st1 t ?_) (ihk p l e s₀ m args below meth cd T' locs _ ls (.ref (cnt + 1) :: st) _ v w' L hx hZ hown hret hml hlk hs0 hdec hr (by simpa [lco, lzo] using X') (by simp only [lRoom, if_true]; omega) (by simp only [lRoom, if_true]; omega) I' hFr hL hlen)
          rw [hsz]; exact q
        · cases hr
      -- the constructor
      · obtain rfl := hn.resolve_left Bool.false_ne_true
        split at hr
        · cases hr
        · rename_i me' hme'
          split at hr
          · rename_i o r hst
            split at hr
            · rename_i hg
              obtain ⟨rfl, rfl, hgo, hp, hg1, hg2, hg3, hg4, hg5⟩ := hg
              obtain ⟨os, cnt, pend⟩ := w
              dsimp only at hgo hp hg1 hg2 hr hg4 hg5
              subst hp hgo
              obtain ⟨bytes, ps, hcode, hdec', hpar, hpl⟩ := LK.2.2.2.2.2.2.2.2.1 0 me' hme'
              obtain ⟨w1, w2, hrt⟩ := LL.2.1 me' hme'
              have hcode' := hcode
              rw [hrt] at hcode'
              have hini := LK.2.2.2.2.2.2.2.2.2.2.2.2 me' hme'
              have m1 : (o + 1) * (P.al.length + 1) = o * (P.al.length + 1) + (P.al.length + 1) := Nat.succ_mul ..
              have m2 : (o + 1) * (Q.nf + zs P.al P.al.length) = o * (Q.nf + zs P.al P.al.length) + (Q.nf + zs P.al P.al.length) := Nat.succ_mul ..
              simp only [ccall, hme'] at hr
              by_cases hla : (layA (Value.ref 0 :: (st.take me'.na).reverse)).length ≤ me'.ml
              · rw [if_pos hla] at hr
                cases hcl : cexec P f 0 me' 0 0 (lay (.ref 0 :: (st.take me'.na).reverse) me'.ml) [] (os o) with
                | none => rw [hcl] at hr; cases hr
                | some vs =>
                  obtain ⟨u, s1⟩ := vs
                  rw [hcl] at hr
                  cases u with
                  | some u => cases hr
                  | none =>
                    dsimp only at hr
                    obtain ⟨i1, i2, i3, i4⟩ := I
                    have hsz : T.heap.size = n0 + o * (P.al.length + 1) + 1 := by simpa using i4
                    have hM := met_of_CW LK hme' (cwalk LK (n0 := n0) (adr := n0 + o * (P.al.length + 1)) (Nat.le_add_right _ _) f 0 me' hme') l hdec' (as := .ref 0 :: (st.take me'.na).reverse) (nd_rev (ρ := id) (nr_nd hg3)) hla hcl (fun _ => rfl) (i3 rfl) (fun _ => hsz)
                    have hB := backOf (R := lRoom Q 0 me) (p := p) (e := e) (below := below) (s := s₀) (args := args) (len := 3) (W := cats r) hM hZ hcode LK.1.2 hg1 hg2
                    have hdl : me'.na < st.length := by
                      have := congrArg List.length hst
                      simp at this; omega
                    have hsp : st = st.take me'.na ++ .ref (o + 1) :: r := by rw [← hst, List.take_append_drop]
                    have hrv : ∀ ρ : Nat → Nat, (st.take me'.na).reverse.map (va ρ) = (st.take me'.na).reverse := fun ρ => by rw [List.map_reverse, nr_map hg3]
                    have hsm : st.map (va (rho a n0 (P.al.length + 1))) = ((st.take me'.na).reverse).reverse ++ .ref (n0 + o * (P.al.length + 1)) :: r.map (va (rho a n0 (P.al.length + 1))) := by
                      conv => lhs; rw [hsp]
                      rw [List.map_append, nr_map hg3]; simp [va, rho]
                    have hll : ∀ sig, parseMethodDescriptor (yOf P me').desc = some sig → ((st.take me'.na).reverse).length = sig.parameters.length := lenOf hpar (by simp [hpl]; omega)
                    have hk : lco P 0 (os, o, true) = o * (P.al.length + 1) + 1 := by simp [lco]
                    have hz : lzo P Q 0 (os, o, true) = o * (Q.nf + zs P.al P.al.length) + Q.nf := by simp [lzo]
                    rw [hk, hz] at X
                    have hpre : ∀ vm₁, s₀.WarmedH vm₁ → ((Value.ref (n0 + o * (P.al.length + 1)) :: (st.take me'.na).reverse).toArray = ((Value.ref 0 :: (st.take me'.na).reverse).map (va ((n0 + o * (P.al.length + 1)) + ·))).toArray ∧ (T.setVm vm₁).heap = T.heap ∧ o * (P.al.length + 1) + 1 + (cRoom P 0 me').cells ≤ (lRoom Q 0 me).cells ∧ o * (Q.nf + zs P.al P.al.length) + Q.nf + (cRoom P 0 me').slots ≤ (lRoom Q 0 me).slots) := fun vm₁ _ => by
                      refine ⟨by rw [List.map_cons, hrv]; rfl, rfl, ?_, ?_⟩
                      · show o * (P.al.length + 1) + 1 + P.al.length ≤ Q.rc
                        exact ar1 m1 hg4
                      · show o * (Q.nf + zs P.al P.al.length) + Q.nf + zs P.al P.al.length ≤ Q.rs
                        exact ar5 m2 hg5
                    obtain ⟨v', vm₁, ⟨U, lo, ce, sl⟩, -, X', ⟨Lc, hQ, l1, l2, l3⟩, stp⟩ := X.specialBack hx (y := yOf P me') hini hown (mv hZ w1) (mv hZ w2) (mv hZ hcode') LK.2.2.2.2.2.2.2.2.2.2.2.1 hB (g := mkF m pc L (st.map (va (rho a n0 (P.al.length + 1))))) rfl hsize (Steps.refl _) hll hsm (by show 2 * 0 + _ ≤ _; rw [cats_va]; omega) hd hpre
                    dsimp only [Pt.U, Pt.locs, Pt.cells, Pt.slots] at X' hQ l1 l2 l3 stp
                    subst l1 l2 l3
                    obtain ⟨⟨rfl, -⟩, hF', hH', hK', hS'⟩ := hQ
                    rw [if_pos rfl] at hH' hS'
                    have I' : LRep P Z U.heap a n0 sc (uo os o s1, o + 1, false) := by
                      refine ⟨i1.congr fun x hx => hK' x (Or.inl (by omega)), fun o' ho' => ?_, fun q => by simp at q, by rw [hS']; show n0 + o * (P.al.length + 1) + 1 + P.al.length = n0 + (o + 1) * (P.al.length + 1) + 0; exact ar6 m1⟩
                      by_cases e2 : o' = o
                      · subst e2; simpa [uo] using hH'
                      · have ho2 : o' < o := by have : o' < o + 1 := ho'; omega
                        have := (i2 o' ho2).congr (h' := U.heap) fun x hx1 hx2 => hK' x (by have := rng (K := P.al.length + 1) ho2; omega)
                        simpa [uo, e2] using this
                    refine Don.step (fun t q => stp.trans q) (ihk p l e s₀ m args below meth cd U (locs ++ Lc) _ ls r _ v w' L hx hZ hown hret hml hlk hs0 hdec hr ?_ (by show (o + 1) * (P.al.length + 1) + 0 ≤ Q.rc; omega) (by show (o + 1) * (Q.nf + zs P.al P.al.length) + 0 ≤ Q.rs; omega) I' (hFr.app hF') hL hlen)
                    have h1 : lco P 0 (uo os o s1, o + 1, false) = o * (P.al.length + 1) + 1 + (cRoom P 0 me').cells := by
                      show (o + 1) * (P.al.length + 1) + 0 = o * (P.al.length + 1) + 1 + P.al.length
                      exact ar3 m1
                    have h2 : lzo P Q 0 (uo os o s1, o + 1, false) = o * (Q.nf + zs P.al P.al.length) + Q.nf + (cRoom P 0 me').slots := by
                      show (o + 1) * (Q.nf + zs P.al P.al.length) + 0 = o * (Q.nf + zs P.al P.al.length) + Q.nf + zs P.al P.al.length
                      exact ar4 m2
                    rw [h1, h2]; exact X'
              · rw [if_neg hla] at hr; cases hr
            · cases hr
          · cases hr
      -- a method of the class
      · obtain rfl := hn.resolve_left Bool.false_ne_true
        split at hr
        · cases hr
        · rename_i m' hm'
          split at hr
          · cases hr
          · rename_i me' hme'
            split at hr
            · rename_i o r hst
              split at hr
              · rename_i hg
                obtain ⟨hg0, hgo, hg1, hg2, hg3⟩ := hg
                obtain ⟨bytes, ps, hcode, hdec', hpar, hpl⟩ := LK.2.2.2.2.2.2.2.2.1 m' me' hme'
                obtain ⟨w1, w2, w3, w4⟩ := LL.2.2.1 _ _ hm' me' hme'
                simp only [ccall, hme'] at hr
                by_cases hla : (layA (Value.ref 0 :: (st.take me'.na).reverse)).length ≤ me'.ml
                · rw [if_pos hla] at hr
                  cases hcl : cexec P f m' me' P.al.length 0 (lay (.ref 0 :: (st.take me'.na).reverse) me'.ml) [] (w.1 o) with
                  | none => rw [hcl] at hr; cases hr
                  | some vs =>
                    obtain ⟨u, s1⟩ := vs
                    rw [hcl] at hr
                    have hr' : lexec P Q sc f mi me (pc + 3) ls (u.toList ++ r) (uo w.1 o s1, w.2.1, w.2.2) = some (v, w') := by cases u <;> exact hr
                    have hM := met_of_CW LK hme' (cwalk LK (n0 := n0) (adr := n0 + o * (P.al.length + 1)) (Nat.le_add_right _ _) f m' me' hme') l hdec' (as := .ref 0 :: (st.take me'.na).reverse) (nd_rev (ρ := id) (nr_nd hg3)) hla hcl (fun q => absurd q hg0) (I.2.1 o hgo) (fun q => absurd q hg0)
                    have hB := backOf (R := lRoom Q mi me) (p := p) (e := e) (below := below) (s := s₀) (args := args) (len := 3) (W := cats r) hM hZ hcode LK.1.2 hg1 hg2
                    have hdl : me'.na < st.length := by
                      have := congrArg List.length hst
                      simp at this; omega
                    have hsp : st = st.take me'.na ++ .ref (o + 1) :: r := by rw [← hst, List.take_append_drop]
                    have hrv : ∀ ρ : Nat → Nat, (st.take me'.na).reverse.map (va ρ) = (st.take me'.na).reverse := fun ρ => by rw [List.map_reverse, nr_map hg3]
                    have hsm : st.map (va (rho a n0 (P.al.length + 1))) = ((st.take me'.na).reverse).reverse ++ .ref (n0 + o * (P.al.length + 1)) :: r.map (va (rho a n0 (P.al.length + 1))) := by
                      conv => lhs; rw [hsp]
                      rw [List.map_append, nr_map hg3]; simp [va, rho]
                    have hll : ∀ sig, parseMethodDescriptor (yOf P me').desc = some sig → ((st.take me'.na).reverse).length = sig.parameters.length := lenOf hpar (by simp [hpl]; omega)
                    have hz1 : (cRoom P m' me').cells = 0 := by simp [cRoom, hg0]
                    have hz2 : (cRoom P m' me').slots = 0 := by simp [cRoom, hg0]
                    have hpre : ∀ vm₁, s₀.WarmedH vm₁ → ((Value.ref (n0 + o * (P.al.length + 1)) :: (st.take me'.na).reverse).toArray = ((Value.ref 0 :: (st.take me'.na).reverse).map (va ((n0 + o * (P.al.length + 1)) + ·))).toArray ∧ (T.setVm vm₁).heap = T.heap ∧ lco P mi w + (cRoom P m' me').cells ≤ (lRoom Q mi me).cells ∧ lzo P Q mi w + (cRoom P m' me').slots ≤ (lRoom Q mi me).slots) := fun vm₁ _ => by
                      refine ⟨by rw [List.map_cons, hrv]; rfl, rfl, ?_, ?_⟩
                      · rw [hz1]; simp only [lco, lRoom] at *; split
                        · simpa using hc1
                        · exact Nat.le_refl _
                      · rw [hz2]; simp only [lzo, lRoom] at *; split
                        · simpa using hc2
                        · exact Nat.le_refl _
                    obtain ⟨cq, kq, qa, qb, qc⟩ := isOf hZ rfl (I.2.1 o hgo).1
                    obtain ⟨v', vm₁, ⟨U, lo, ce, sl⟩, -, X', ⟨Lc, hQ, l1, l2, l3⟩, stp⟩ := X.virtualBack hx (y := yOf P me') (z := yOf P me') hown (mv hZ w1) (mv hZ w2) (notFace_of_selects (args := #[]) (mv hZ w4)) (mv hZ w4) (mv hZ w3) LK.2.2.2.2.2.2.2.2.2.2.2.1 hB qa qc (g := mkF m pc L (st.map (va (rho a n0 (P.al.length + 1))))) rfl hsize (Steps.refl _) hll hsm (by show 2 * 0 + _ ≤ _; rw [cats_va]; omega) hd hpre
                    dsimp only [Pt.U, Pt.locs, Pt.cells, Pt.slots] at X' hQ l1 l2 l3 stp
                    subst l1 l2 l3
                    obtain ⟨⟨rfl, hva⟩, hF', hH', hK', hS'⟩ := hQ
                    rw [if_neg hg0] at hH' hS'
                    rw [hz1, hz2] at X'
                    refine Don.step (fun t q => stp.trans ?_) (ihk p l e s₀ m args below meth cd U (locs ++ Lc) _ ls (v'.toList ++ r) _ v w' L hx hZ hown hret hml hlk hs0 hdec hr' X' hc1 hc2 (I.call hgo hK' hS' hH') (hFr.app hF') hL hlen)
                    rw [List.map_append, hva] at q; exact q
                · rw [if_neg hla] at hr; cases hr
              · cases hr
            · cases hr
      -- a static method of the law
      · obtain rfl := hn.resolve_left Bool.false_ne_true
        split at hr
        · cases hr
        · rename_i m' hm'
          split at hr
          · cases hr
          · rename_i me' hme'
            split at hr
            · rename_i hg
              obtain ⟨hg0, hgn, hg1, hg2, hg3⟩ := hg
              obtain ⟨bytes, ps, hcode, hdec', hpar, hpl⟩ := LL.2.2.2.2.2.1 m' me' hme' hg0
              obtain ⟨w1, w2, w3⟩ := LL.2.2.2.1 _ _ hm' me' hme'
              dsimp only at hr
              rw [hme'] at hr
              dsimp only at hr
              by_cases hla : (layA (st.take me'.na).reverse).length ≤ me'.ml
              · rw [if_pos hla] at hr
                cases hcl : lexec P Q sc f m' me' 0 (lay (st.take me'.na).reverse me'.ml) [] w with
                | none => rw [hcl] at hr; cases hr
                | some vs =>
                  obtain ⟨u, w2'⟩ := vs
                  rw [hcl] at hr
                  have hr' : lexec P Q sc f mi me (pc + 3) ls (u.toList ++ st.drop me'.na) w2' = some (v, w') := by cases u <;> exact hr
                  have hndv : ∀ v ∈ (st.take me'.na).reverse, ∀ x, v ≠ .double x := fun v hv x e => nd_spec hg3 v (List.mem_reverse.mp hv) x e
                  have hM := met_of_LW LL (ih m' me' hme') hg0 l hdec' (as := (st.take me'.na).reverse) hndv hla hcl (by simpa [lRoom] using hc1) (by simpa [lRoom] using hc2) I
                  have hB := backOf (R := lRoom Q mi me) (p := p) (e := e) (below := below) (s := s₀) (args := args) (len := 3) (W := cats (st.drop me'.na)) hM hZ hcode w3 hg1 hg2
                  have hsm : st.map (va (rho a n0 (P.al.length + 1))) = (((st.take me'.na).reverse).map (va (rho a n0 (P.al.length + 1)))).reverse ++ (st.drop me'.na).map (va (rho a n0 (P.al.length + 1))) := by
                    conv => lhs; rw [← List.take_append_drop me'.na st]
                    simp
                  have hll : ∀ sig, parseMethodDescriptor (zOf Q me').desc = some sig → (((st.take me'.na).reverse).map (va (rho a n0 (P.al.length + 1)))).length = sig.parameters.length := lenOf hpar (by simp [hpl]; omega)
                  have hz1 : (lRoom Q m' me').cells = 0 := by simp [lRoom, hg0]
                  have hz2 : (lRoom Q m' me').slots = 0 := by simp [lRoom, hg0]
                  have hpre : ∀ vm₁, s₀.WarmedH vm₁ → ((((st.take me'.na).reverse).map (va (rho a n0 (P.al.length + 1)))).toArray = (((st.take me'.na).reverse).map (va (rho a n0 (P.al.length + 1)))).toArray ∧ (T.setVm vm₁).heap = T.heap ∧ lco P mi w + (lRoom Q m' me').cells ≤ (lRoom Q mi me).cells ∧ lzo P Q mi w + (lRoom Q m' me').slots ≤ (lRoom Q mi me).slots) := fun vm₁ _ => by
                    refine ⟨rfl, rfl, ?_, ?_⟩
                    · rw [hz1]; simp only [lco, lRoom] at *; split
                      · simpa using hc1
                      · exact Nat.le_refl _
                    · rw [hz2]; simp only [lzo, lRoom] at *; split
                      · simpa using hc2
                      · exact Nat.le_refl _
                  obtain ⟨v', vm₁, ⟨U, lo, ce, sl⟩, -, X', ⟨Lc, hQ, l1, l2, l3⟩, stp⟩ := Jvm.LawKit.callS X hx (y := zOf Q me') hown (mv hZ w1) (mv hZ w2) (mv hZ w3) (mv hZ hcode) LL.2.2.2.2.2.2.2 hB (g := mkF m pc L (st.map (va (rho a n0 (P.al.length + 1))))) rfl hsize hll hsm (by show 2 * 0 + _ ≤ _; rw [cats_va]; omega) hd hpre
                  dsimp only [Pt.U, Pt.locs, Pt.cells, Pt.slots] at X' hQ l1 l2 l3 stp
                  subst l1 l2 l3
                  obtain ⟨⟨rfl, hva⟩, hF', hI'⟩ := hQ
                  rw [hz1, hz2] at X'
                  have hcn := lexec_cnt _ _ _ _ _ _ _ _ _ hg0 hcl
                  have e1 : lco P mi w2' = lco P mi w := by simp only [lco, hcn]
                  have e2 : lzo P Q mi w2' = lzo P Q mi w := by simp only [lzo, hcn]
                  refine Don.step (fun t q => stp t ?_) (ihk p l e s₀ m args below meth cd U (locs ++ Lc) _ ls (v'.toList ++ st.drop me'.na) _ v w' L hx hZ hown hret hml hlk hs0 hdec hr' (by rw [e1, e2]; exact X') (by rw [hcn]; exact hc1) (by rw [hcn]; exact hc2) hI' (hFr.app hF') hL hlen)
                  rw [List.map_append, hva] at q; exact q
              · rw [if_neg hla] at hr; cases hr
            · cases hr
      -- the rest
      · split at hr
        · split at hr
          · rename_i u hu
            cases hr
            refine st_ret X hx hret hlk hu hd hn ⟨⟨rfl, cret_va hu⟩, hFr, I⟩ ?_ ?_
            · simp only [lco, lRoom] at *; split
              · simpa using hc1
              · exact Nat.le_refl _
            · simp only [lzo, lRoom] at *; split
              · simpa using hc2
              · exact Nat.le_refl _
          · cases hr
        · split at hr
          · rename_i pc' ls' st' hp
            obtain ⟨L', hL', hLs, st⟩ := pstep_sound X hx hp hd hn hL
            have hlen' : ls'.length = me.ml := by rw [← hL'.1, hLs, hL.1]; exact hlen
            exact Don.step st (ihk p l e s₀ m args below meth cd T locs _ ls' st' w v w' L' hx hZ hown hret hml hlk hs0 hdec hr X hc1 hc2 I hFr hL' hlen')
          · cases hr
/-- the law as a whole: what the machine returns, the program returns -/
theorem law_met {P : Cl} {Q : Lw} {sc : Sc} {Z : State} {a0 : Array Value} (LK : LinkC P Z a0) (LL : LinkL P Q Z a0) {a f : Nat} {me : Me} (hme : asc Q.ms 0 = some me) (l : Launch) {bytes : ByteArray} {ws : List Cond}
    (hdec : ∀ pc i n, fetch me.cd pc = some (i, n) → decode bytes pc = .ok (i, n) ∧ (isSw i = true ∨ n = ilen i))
    {as : List Value} (hnd : nd as = true) (hlen : (layA as).length ≤ me.ml) {v : Option Value} {w' : Wd} {h : Heap} (hr : lexec P Q sc f 0 me 0 (lay as me.ml) [] (fun _ => s0, 0, false) = some (v, w')) (hS : SRep Z h a h.size sc) :
    MetFree l (zOf Q me) (head1 (Cond.code (zOf Q me) bytes me.ml (retOf me.rt) :: ws) (lRoom Q 0 me)) (fun b U => b = (as.map (va (rho a h.size (P.al.length + 1)))).toArray ∧ Z.Warmed39 U.vm ∧ U.heap = h) (fun _ _ _ _ _ => True)
      (fun _ U o U' => ∃ u L, o = .returned u ∧ (u = v ∧ Fr h.size L) ∧ FrameEnd U o U' L Q.rc Q.rs) := by
  refine MetFree.of_bodySF (plainFor_of_name LL.2.2.2.2.2.2.1) hisR ?_
  intro p e s₀ m args below meth cd s₁ Bd hml hP hK
  obtain ⟨rfl, hZ, hh⟩ := hP
  have e0 : s₁.heap = h := by rw [← hh, Bd.state]; rfl
  have X0 : Stand p l e (lRoom Q 0 me) s₀ m _ below meth cd s₁ [] 0 0 := Stand.of_body Bd
  have hown : s₀.vm.findClass Q.nm = some m.cls := findClass_of_methodNamed Bd.named
  have hk0 : lco P 0 (fun _ => s0, 0, false) = 0 := by simp [lco]
  have hz0 : lzo P Q 0 (fun _ => s0, 0, false) = 0 := by simp [lzo]
  have D := lwalk LK LL (sc := sc) (a := a) (n0 := h.size) f 0 me hme p l e s₀ m _ below meth cd s₁ [] 0 (lay as me.ml) [] (fun _ => s0, 0, false) v w' _ Bd.exec hZ hown Bd.returns hml Bd.notSynchronized (fun _ => by rw [hh])
    (fun pc i n q => by rw [Bd.bytes]; exact hdec pc i n q) hr (by rw [hk0, hz0]; exact X0) (by simp) (by simp) (by
      rw [e0]; exact ⟨hS, fun o ho => absurd ho (Nat.not_lt_zero _), fun q => by simp at q, by simp⟩) (Fr.nil _) (lay_LR (nd_spec hnd) hlen) (lay_len hlen)
  obtain ⟨s₂, o, a1, a2, a3, u, L, a4, a5, a6⟩ := D
  refine ⟨s₂, o, a1, a2, a3, u, L, a4, ⟨a5.1.1, a5.2.1⟩, ?_⟩
  simpa [lRoom] using a6
end Jvm.LM

namespace Jvm.LM
open Sem ClassFile Op Lib Jvm.Stand Jvm.Free Jvm.LawKit Jvm.RoadKit
/-! what a run of the machine comes to -/
theorem cstep_mono {α : Type} {P : Cl} {mi : Nat} {me : Me} {rt : Option Value → St → Option α} {cl cl' : Nat → Nat → List Value → St → Rs} {k k' : Nat → Nat → Lv → List Value → St → Option α} {i : Instr} {c pc : Nat} {ls : Lv} {st : List Value} {s : St} {r : α}
    (hcl : ∀ m c as s r, cl m c as s = some r → cl' m c as s = some r) (hk : ∀ c pc ls st s r, k c pc ls st s = some r → k' c pc ls st s = some r) (h : cstep P mi me rt cl k i c pc ls st s = some r) : cstep P mi me rt cl' k' i c pc ls st s = some r := by
  unfold cstep at h ⊢
  split at h
  all_goals (try dsimp only)
  · split at h
    · split at h
      · exact hk _ _ _ _ _ _ h
      · cases h
    · cases h
  · split at h
    · split at h
      · exact hk _ _ _ _ _ _ h
      · cases h
    · cases h
  · split at h
    · exact hk _ _ _ _ _ _ h
    · cases h
  · split at h
    · exact hk _ _ _ _ _ _ h
    · cases h
  · split at h
    · exact hk _ _ _ _ _ _ h
    · cases h
  · split at h
    · exact hk _ _ _ _ _ _ h
    · cases h
  · split at h
    · exact hk _ _ _ _ _ _ h
    · cases h
  · split at h
    · exact hk _ _ _ _ _ _ h
    · cases h
  · split at h
    · rename_i q; rw [if_pos q]; exact hk _ _ _ _ _ _ h
    · cases h
  · split at h
    · exact hk _ _ _ _ _ _ h
    · cases h
  · split at h
    · exact hk _ _ _ _ _ _ h
    · cases h
  · split at h
    · split at h
      · rename_i q; rw [if_pos q]; exact hk _ _ _ _ _ _ h
      · cases h
    · cases h
  · split at h
    · cases h
    · rename_i m' hm'
      split at h
      · cases h
      · rename_i me' hme'
        split at h
        · rename_i r0 hst
          split at h
          · rename_i q
            rw [if_pos q]
            split at h
            · rename_i s1 hc; rw [hcl _ _ _ _ _ hc]; exact hk _ _ _ _ _ _ h
            · rename_i v1 s1 hc; rw [hcl _ _ _ _ _ hc]; exact hk _ _ _ _ _ _ h
            · cases h
          · cases h
        · cases h
  · split at h
    · rename_i q; rw [if_pos q]; exact h
    · rename_i q; rw [if_neg q]
      split at h
      · exact hk _ _ _ _ _ _ h
      · cases h
theorem cexec_succ {P : Cl} : ∀ f mi me c pc ls st s r, cexec P f mi me c pc ls st s = some r → cexec P (f + 1) mi me c pc ls st s = some r := by
  intro f
  induction f with
  | zero => intro mi me c pc ls st s r h; cases h
  | succ f ih =>
    intro mi me c pc ls st s r h
    rw [cexec] at h ⊢
    split at h
    · cases h
    · refine cstep_mono (fun m c as s r h => ?_) (fun c pc ls st s r h => ih _ _ _ _ _ _ _ _ h) h
      split at h
      · split at h
        · rename_i q; rw [if_pos q]; exact ih _ _ _ _ _ _ _ _ h
        · cases h
      · cases h
theorem cexec_le {P : Cl} {f g mi : Nat} {me : Me} {c pc : Nat} {ls : Lv} {st : List Value} {s : St} {r : Option Value × St} (hfg : f ≤ g) (h : cexec P f mi me c pc ls st s = some r) : cexec P g mi me c pc ls st s = some r := by
  obtain ⟨d, rfl⟩ := Nat.le.dest hfg
  induction d with
  | zero => exact h
  | succ d ih => exact cexec_succ _ _ _ _ _ _ _ _ _ (ih (Nat.le_add_right _ _))
theorem ccall_le {P : Cl} {f g m' c : Nat} {as : List Value} {s : St} {r : Option Value × St} (hfg : f ≤ g) (h : ccall P f m' c as s = some r) : ccall P g m' c as s = some r := by
  unfold ccall at h ⊢
  split at h
  · split at h
    · rename_i q; rw [if_pos q]; exact cexec_le hfg h
    · cases h
  · cases h
def wpc (P : Cl) (mi : Nat) (me : Me) (c pc : Nat) (ls : Lv) (st : List Value) (s : St) (Q : Option Value → St → Prop) : Prop := ∃ f v s', cexec P f mi me c pc ls st s = some (v, s') ∧ Q v s'
def cal (P : Cl) (m' c : Nat) (as : List Value) (s : St) (Q : Option Value → St → Prop) : Prop := ∃ f v s', ccall P f m' c as s = some (v, s') ∧ Q v s'
def calI (P : Cl) (m' c : Nat) (as : List Value) (s : St) (Q : Int32 → St → Prop) : Prop := cal P m' c as s fun r s' => ∃ v, r = some (.int v) ∧ Q v s'
def calL (P : Cl) (m' c : Nat) (as : List Value) (s : St) (Q : Int64 → St → Prop) : Prop := cal P m' c as s fun r s' => ∃ v, r = some (.long v) ∧ Q v s'
def calV (P : Cl) (m' c : Nat) (as : List Value) (s : St) (Q : St → Prop) : Prop := cal P m' c as s fun r s' => r = none ∧ Q s'
theorem cstep_nat {α : Type} {P : Cl} {mi : Nat} {me : Me} {k : Nat → Nat → Lv → List Value → St → Option α} {i : Instr} {c pc : Nat} {ls : Lv} {st : List Value} {s : St} {x : α}
    (h : cstep P mi me (fun _ _ => none) (fun _ _ _ _ => none) k i c pc ls st s = some x) : ∃ c' pc' ls' st' s', k c' pc' ls' st' s' = some x ∧ ∀ (β : Type) (rt : Option Value → St → Option β) cl (k' : Nat → Nat → Lv → List Value → St → Option β), cstep P mi me rt cl k' i c pc ls st s = k' c' pc' ls' st' s' := by
  unfold cstep at h
  split at h
  · split at h
    · split at h
      · rename_i q; exact ⟨_, _, _, _, _, h, fun β rt cl k' => by simp only [cstep, q]⟩
      · cases h
    · cases h
  · split at h
    · split at h
      · rename_i q; exact ⟨_, _, _, _, _, h, fun β rt cl k' => by simp only [cstep, q]⟩
      · cases h
    · cases h
  · split at h
    · rename_i q; exact ⟨_, _, _, _, _, h, fun β rt cl k' => by simp only [cstep, q]⟩
    · cases h
  · split at h
    · rename_i q; exact ⟨_, _, _, _, _, h, fun β rt cl k' => by simp only [cstep, q]⟩
    · cases h
  · split at h
    · rename_i q; exact ⟨_, _, _, _, _, h, fun β rt cl k' => by simp only [cstep, q]⟩
    · cases h
  · split at h
    · rename_i q; exact ⟨_, _, _, _, _, h, fun β rt cl k' => by simp only [cstep, q]⟩
    · cases h
  · split at h
    · rename_i q; exact ⟨_, _, _, _, _, h, fun β rt cl k' => by simp only [cstep, q]⟩
    · cases h
  · split at h
    · rename_i q; exact ⟨_, _, _, _, _, h, fun β rt cl k' => by simp only [cstep, q]⟩
    · cases h
  · split at h
    · rename_i q; exact ⟨_, _, _, _, _, h, fun β rt cl k' => by simp only [cstep]; rw [if_pos q]⟩
    · cases h
  · split at h
    · rename_i q; exact ⟨_, _, _, _, _, h, fun β rt cl k' => by simp only [cstep, q]⟩
    · cases h
  · split at h
    · rename_i q; exact ⟨_, _, _, _, _, h, fun β rt cl k' => by simp only [cstep, q]⟩
    · cases h
  · split at h
    · split at h
      · rename_i q; exact ⟨_, _, _, _, _, h, fun β rt cl k' => by simp only [cstep]; rw [if_pos q]⟩
      · cases h
    · cases h
  · split at h
    · cases h
    · split at h
      · cases h
      · split at h
        · split at h
          · cases h
          · cases h
        · cases h
  · rename_i n1 n2 n3 n4 n5 n6 n7 n8 n9 n10 n11 n12 n13
    split at h
    · split at h
      · cases h
      · split at h <;> cases h
    · rename_i hr
      split at h
      · rename_i pc' ls' st' hp
        refine ⟨_, _, _, _, _, h, fun β rt cl k' => ?_⟩
        unfold cstep
        split <;> first | (exfalso; first | exact n1 _ rfl | exact n2 _ rfl | exact n3 rfl | exact n4 rfl | exact n5 rfl | exact n6 rfl | exact n7 rfl | exact n8 rfl | exact n9 _ rfl | exact n10 _ rfl | exact n11 _ rfl | exact n12 _ rfl | exact n13 _ rfl) | skip
        rw [if_neg hr, hp]
      · cases h
def csl (P : Cl) (mi : Nat) (me : Me) : Nat → Nat → Nat → Lv → List Value → St → Option (Nat × Nat × Lv × List Value × St)
  | 0, c, pc, ls, st, s => some (c, pc, ls, st, s)
  | n + 1, c, pc, ls, st, s => match fetch me.cd pc with
    | none => none
    | some (i, _) => cstep P mi me (fun _ _ => none) (fun _ _ _ _ => none) (csl P mi me n) i c pc ls st s
theorem wpc_one {P : Cl} {mi : Nat} {me : Me} {c pc c' pc' : Nat} {ls ls' : Lv} {st st' : List Value} {s s' : St} {Q : Option Value → St → Prop} {i : Instr} {n : Nat} (hf : fetch me.cd pc = some (i, n))
    (h : ∀ (rt : Option Value → St → Rs) cl (k : Nat → Nat → Lv → List Value → St → Rs), cstep P mi me rt cl k i c pc ls st s = k c' pc' ls' st' s') (hq : wpc P mi me c' pc' ls' st' s' Q) : wpc P mi me c pc ls st s Q := by
  obtain ⟨f, v, s2, h1, h2⟩ := hq
  refine ⟨f + 1, v, s2, ?_, h2⟩
  rw [cexec, hf]; dsimp only; rw [h]; exact h1
theorem wpc_sl {P : Cl} {mi : Nat} {me : Me} {Q : Option Value → St → Prop} : ∀ {n c pc c' pc' : Nat} {ls ls' : Lv} {st st' : List Value} {s s' : St}, csl P mi me n c pc ls st s = some (c', pc', ls', st', s') → wpc P mi me c' pc' ls' st' s' Q → wpc P mi me c pc ls st s Q := by
  intro n
  induction n with
  | zero => intro c pc c' pc' ls ls' st st' s s' h hq; cases h; exact hq
  | succ n ih =>
    intro c pc c' pc' ls ls' st st' s s' h hq
    simp only [csl] at h
    split at h
    · cases h
    · rename_i i m hf
      obtain ⟨c1, pc1, ls1, st1, s1, h1, h2⟩ := cstep_nat h
      exact wpc_one hf (fun rt cl k => h2 _ rt cl k) (ih h1 hq)
theorem wpc_ret {P : Cl} {mi : Nat} {me : Me} {c pc : Nat} {ls : Lv} {st : List Value} {s : St} {Q : Option Value → St → Prop} {i : Instr} {n : Nat} {v : Option Value} (hf : fetch me.cd pc = some (i, n)) (hr : isRet i = true) (hc : mi = 0 → c = P.al.length) (h : cret me st i = some v) (hq : Q v s) : wpc P mi me c pc ls st s Q := by
  refine ⟨1, v, s, ?_, hq⟩
  rw [cexec, hf]; dsimp only
  have hc' : ¬ (mi = 0 ∧ c ≠ P.al.length) := fun q => q.2 (hc q.1)
  cases i <;> first | (cases hr; done) | (simp only [cstep]; rw [if_pos hr, if_neg hc', h])
theorem wpc_if {P : Cl} {mi : Nat} {me : Me} {c pc a b : Nat} {ls : Lv} {r : List Value} {s : St} {Q : Option Value → St → Prop} {cd : ClassFile.Cond} {o : Int} {n : Nat} {x : Int32} (hf : fetch me.cd pc = some (.ifCond cd o, n)) (ho : 0 ≤ (pc : Int) + o) (ha : jmp pc o = a) (hb : pc + 3 = b)
    (hq : wpc P mi me c (br cd x 0 a b) ls r s Q) : wpc P mi me c pc ls (.int x :: r) s Q := by
  subst ha hb
  refine wpc_one hf (fun rt cl k => ?_) hq
  show (match pstep (.ifCond cd o) pc ls (.int x :: r) with | some (pc', ls', st') => k c pc' ls' st' s | none => none) = _
  simp only [pstep, qstep]; rw [if_pos ho]
theorem wpc_icmp {P : Cl} {mi : Nat} {me : Me} {c pc a b : Nat} {ls : Lv} {r : List Value} {s : St} {Q : Option Value → St → Prop} {cd : ClassFile.Cond} {o : Int} {n : Nat} {x y : Int32} (hf : fetch me.cd pc = some (.if_icmp cd o, n)) (ho : 0 ≤ (pc : Int) + o) (ha : jmp pc o = a) (hb : pc + 3 = b)
    (hq : wpc P mi me c (br cd x y a b) ls r s Q) : wpc P mi me c pc ls (.int y :: .int x :: r) s Q := by
  subst ha hb
  refine wpc_one hf (fun rt cl k => ?_) hq
  show (match pstep (.if_icmp cd o) pc ls (.int y :: .int x :: r) with | some (pc', ls', st') => k c pc' ls' st' s | none => none) = _
  simp only [pstep, qstep]; rw [if_pos ho]
/-- the two roads of a branch -/
theorem wpc_br {P : Cl} {mi : Nat} {me : Me} {c a b : Nat} {ls : Lv} {st : List Value} {s : St} {Q : Option Value → St → Prop} {p : Prop} [Decidable p] (h : (p → wpc P mi me c a ls st s Q) ∧ (¬ p → wpc P mi me c b ls st s Q)) : wpc P mi me c (if p then a else b) ls st s Q := by
  by_cases hp : p
  · rw [if_pos hp]; exact h.1 hp
  · rw [if_neg hp]; exact h.2 hp
theorem wpc_lda {P : Cl} {mi : Nat} {me : Me} {c pc a tt N : Nat} {ls : Lv} {r : List Value} {s : St} {Q : Option Value → St → Prop} {i : Instr} {n : Nat} {j : Int32} (hf : fetch me.cd pc = some (i, n)) (hi : (tt = 0 ∧ i = .iaload) ∨ (tt = 1 ∧ i = .baload) ∨ (tt = 2 ∧ i = .laload)) (ha : P.al[a]? = some (tt, N)) (hac : a < c)
    (hj : inb N j) (hq : wpc P mi me c (pc + 1) ls (elv tt s (a + 1) (ix j) :: r) s Q) : wpc P mi me c pc ls (.int j :: .ref (a + 1) :: r) s Q := by
  have hl : lda P tt c (.int j :: .ref (a + 1) :: r) s = some (elv tt s (a + 1) (ix j) :: r) := by
    simp only [lda, ha]; rw [if_pos ⟨trivial, hac⟩, if_pos hj]; rfl
  refine wpc_one hf (fun rt cl k => ?_) hq
  rcases hi with ⟨rfl, rfl⟩ | ⟨rfl, rfl⟩ | ⟨rfl, rfl⟩ <;> simp only [cstep, hl]
theorem wpc_sta {P : Cl} {mi : Nat} {me : Me} {c pc a tt N : Nat} {ls : Lv} {r : List Value} {s s' : St} {Q : Option Value → St → Prop} {i : Instr} {n : Nat} {j : Int32} {v : Value} (hf : fetch me.cd pc = some (i, n)) (hi : (tt = 0 ∧ i = .iastore ∧ ∃ z, v = .int z ∧ s' = sI s (a + 1) (ix j) z) ∨ (tt = 1 ∧ i = .bastore ∧ ∃ z, v = .int z ∧ s' = sI s (a + 1) (ix j) (z &&& 1)) ∨ (tt = 2 ∧ i = .lastore ∧ ∃ z, v = .long z ∧ s' = sL s (a + 1) (ix j) z)) (ha : P.al[a]? = some (tt, N)) (hac : a < c)
    (hj : inb N j) (hq : wpc P mi me c (pc + 1) ls r s' Q) : wpc P mi me c pc ls (v :: .int j :: .ref (a + 1) :: r) s Q := by
  have hl : sta P tt c (v :: .int j :: .ref (a + 1) :: r) s = some (r, s') := by
    simp only [sta, ha]; rw [if_pos ⟨trivial, hac⟩, if_pos hj]
    rcases hi with ⟨rfl, -, z, rfl, rfl⟩ | ⟨rfl, -, z, rfl, rfl⟩ | ⟨rfl, -, z, rfl, rfl⟩ <;> rfl
  refine wpc_one hf (fun rt cl k => ?_) hq
  rcases hi with ⟨rfl, rfl, -⟩ | ⟨rfl, rfl, -⟩ | ⟨rfl, rfl, -⟩ <;> simp only [cstep, hl]
theorem wpc_call {P : Cl} {mi : Nat} {me me' : Me} {c pc x m' : Nat} {ls : Lv} {st r as : List Value} {s : St} {Q : Option Value → St → Prop} {n : Nat} (hf : fetch me.cd pc = some (.invokevirtual x, n)) (hm : asc P.mx x = some m') (hme : asc P.ms m' = some me') (hst : st.drop me'.na = .ref 0 :: r) (has : (st.take me'.na).reverse = as)
    (hg : m' ≠ 0 ∧ me'.rf + 1 ≤ me.rf ∧ cats r + (me'.ml + 11) + me'.rl ≤ me.rl ∧ nd (st.take me'.na) = true)
    (hq : cal P m' c (.ref 0 :: as) s fun v s' => wpc P mi me c (pc + 3) ls (v.toList ++ r) s' Q) : wpc P mi me c pc ls st s Q := by
  subst has
  obtain ⟨f1, v, s1, h1, f2, v2, s2, h2, h3⟩ := hq
  refine ⟨max f1 f2 + 1, v2, s2, ?_, h3⟩
  have h1' := ccall_le (Nat.le_max_left f1 f2) h1
  have h2' := cexec_le (Nat.le_max_right f1 f2) h2
  rw [cexec, hf]; dsimp only
  simp only [cstep, hm, hme, hst]
  rw [if_pos hg]
  simp only [ccall, hme] at h1'
  rw [h1']
  cases v <;> exact h2'
theorem cal_of {P : Cl} {m' c : Nat} {as : List Value} {s : St} {Q : Option Value → St → Prop} {me : Me} {ls : Lv} (hme : asc P.ms m' = some me) (hl : (layA as).length ≤ me.ml) (hls : lay as me.ml = ls) (h : wpc P m' me c 0 ls [] s Q) : cal P m' c as s Q := by
  subst hls
  obtain ⟨f, v, s', h1, h2⟩ := h
  refine ⟨f, v, s', ?_, h2⟩
  simp only [ccall, hme]; rw [if_pos hl]; exact h1
theorem cal.mono {P : Cl} {m' c : Nat} {as : List Value} {s : St} {Q Q' : Option Value → St → Prop} (h : cal P m' c as s Q) (hq : ∀ v s', Q v s' → Q' v s') : cal P m' c as s Q' := by
  obtain ⟨f, v, s', h1, h2⟩ := h; exact ⟨f, v, s', h1, hq _ _ h2⟩
theorem calI.mono {P : Cl} {m' c : Nat} {as : List Value} {s : St} {Q Q' : Int32 → St → Prop} (h : calI P m' c as s Q) (hq : ∀ v s', Q v s' → Q' v s') : calI P m' c as s Q' := cal.mono h fun _ _ ⟨v, e, q⟩ => ⟨v, e, hq _ _ q⟩
theorem calL.mono {P : Cl} {m' c : Nat} {as : List Value} {s : St} {Q Q' : Int64 → St → Prop} (h : calL P m' c as s Q) (hq : ∀ v s', Q v s' → Q' v s') : calL P m' c as s Q' := cal.mono h fun _ _ ⟨v, e, q⟩ => ⟨v, e, hq _ _ q⟩
theorem calV.mono {P : Cl} {m' c : Nat} {as : List Value} {s : St} {Q Q' : St → Prop} (h : calV P m' c as s Q) (hq : ∀ s', Q s' → Q' s') : calV P m' c as s Q' := cal.mono h fun _ _ ⟨e, q⟩ => ⟨e, hq _ q⟩
theorem wpc.mono {P : Cl} {mi : Nat} {me : Me} {c pc : Nat} {ls : Lv} {st : List Value} {s : St} {Q Q' : Option Value → St → Prop} (h : wpc P mi me c pc ls st s Q) (hq : ∀ v s', Q v s' → Q' v s') : wpc P mi me c pc ls st s Q' := by
  obtain ⟨f, v, s', h1, h2⟩ := h; exact ⟨f, v, s', h1, hq _ _ h2⟩
theorem wpc_callI {P : Cl} {mi : Nat} {me me' : Me} {c pc x m' : Nat} {ls : Lv} {st r as : List Value} {s : St} {Q : Option Value → St → Prop} {n : Nat} (hf : fetch me.cd pc = some (.invokevirtual x, n)) (hm : asc P.mx x = some m') (hme : asc P.ms m' = some me') (hst : st.drop me'.na = .ref 0 :: r) (has : (st.take me'.na).reverse = as)
    (hg : m' ≠ 0 ∧ me'.rf + 1 ≤ me.rf ∧ cats r + (me'.ml + 11) + me'.rl ≤ me.rl ∧ nd (st.take me'.na) = true)
    (hq : calI P m' c (.ref 0 :: as) s fun v s' => wpc P mi me c (pc + 3) ls (.int v :: r) s' Q) : wpc P mi me c pc ls st s Q :=
  wpc_call hf hm hme hst has hg (cal.mono hq fun _ _ ⟨v, e, q⟩ => by subst e; exact q)
theorem wpc_callL {P : Cl} {mi : Nat} {me me' : Me} {c pc x m' : Nat} {ls : Lv} {st r as : List Value} {s : St} {Q : Option Value → St → Prop} {n : Nat} (hf : fetch me.cd pc = some (.invokevirtual x, n)) (hm : asc P.mx x = some m') (hme : asc P.ms m' = some me') (hst : st.drop me'.na = .ref 0 :: r) (has : (st.take me'.na).reverse = as)
    (hg : m' ≠ 0 ∧ me'.rf + 1 ≤ me.rf ∧ cats r + (me'.ml + 11) + me'.rl ≤ me.rl ∧ nd (st.take me'.na) = true)
    (hq : calL P m' c (.ref 0 :: as) s fun v s' => wpc P mi me c (pc + 3) ls (.long v :: r) s' Q) : wpc P mi me c pc ls st s Q :=
  wpc_call hf hm hme hst has hg (cal.mono hq fun _ _ ⟨v, e, q⟩ => by subst e; exact q)
theorem wpc_callV {P : Cl} {mi : Nat} {me me' : Me} {c pc x m' : Nat} {ls : Lv} {st r as : List Value} {s : St} {Q : Option Value → St → Prop} {n : Nat} (hf : fetch me.cd pc = some (.invokevirtual x, n)) (hm : asc P.mx x = some m') (hme : asc P.ms m' = some me') (hst : st.drop me'.na = .ref 0 :: r) (has : (st.take me'.na).reverse = as)
    (hg : m' ≠ 0 ∧ me'.rf + 1 ≤ me.rf ∧ cats r + (me'.ml + 11) + me'.rl ≤ me.rl ∧ nd (st.take me'.na) = true)
    (hq : calV P m' c (.ref 0 :: as) s fun s' => wpc P mi me c (pc + 3) ls r s' Q) : wpc P mi me c pc ls st s Q :=
  wpc_call hf hm hme hst has hg (cal.mono hq fun _ _ ⟨e, q⟩ => by subst e; exact q)
/-- both roads of a value -/
theorem wp_val {p : Prop} [Decidable p] {α : Sort _} {F : α → Prop} {x y : α} (h : F (if p then x else y)) : (p → F x) ∧ (¬ p → F y) := ⟨fun q => by rw [if_pos q] at h; exact h, fun q => by rw [if_neg q] at h; exact h⟩
end Jvm.LM

namespace Jvm.LM
open Sem ClassFile Op Lib Jvm.Stand Jvm.Free Jvm.LawKit Jvm.RoadKit
/-! variables that are not read any more -/
def lle (a b : Lv) : Prop := a.length = b.length ∧ ∀ (k : Nat) (v : Value), a[k]? = some (some v) → b[k]? = some (some v)
def lle' : Lv → Lv → Prop
  | [], [] => True
  | none :: a, _ :: b => lle' a b
  | some v :: a, w :: b => w = some v ∧ lle' a b
  | _, _ => False
theorem lle_of {a b : Lv} (h : lle' a b) : lle a b := by
  induction a generalizing b with
  | nil => cases b with
    | nil => exact ⟨rfl, fun k v hk => hk⟩
    | cons y b => cases h
  | cons x a ih =>
    cases b with
    | nil => cases x <;> cases h
    | cons y b =>
      cases x with
      | none =>
        obtain ⟨h1, h2⟩ := ih (b := b) h
        refine ⟨by simp [h1], fun k v hk => ?_⟩
        cases k with
        | zero => simp at hk
        | succ k => simp at hk ⊢; exact h2 k v hk
      | some x =>
        obtain ⟨e, h⟩ := h
        obtain ⟨h1, h2⟩ := ih (b := b) h
        subst e
        refine ⟨by simp [h1], fun k v hk => ?_⟩
        cases k with
        | zero => exact hk
        | succ k => simp at hk ⊢; exact h2 k v hk
theorem clr_lle {a b : Lv} (h : lle a b) (i : Nat) : (clr a i).length = (clr b i).length ∧ ∀ k v, k ≠ i → (clr a i)[k]? = some (some v) → (clr b i)[k]? = some (some v) := by
  refine ⟨by rw [clr_len, clr_len]; exact h.1, fun k v hk hv => ?_⟩
  obtain ⟨q1, q2⟩ := clr_get hv
  have q3 := h.2 _ _ q1
  cases i with
  | zero => exact q3
  | succ j =>
    simp only [clr]
    split
    · rename_i x e
      rw [List.getElem?_set]
      split
      · rename_i e2; subst e2
        rw [q3] at e; cases e
        exact absurd rfl (q2 rfl)
      · exact q3
    · rename_i x e
      rw [List.getElem?_set]
      split
      · rename_i e2; subst e2
        rw [q3] at e; cases e
        exact absurd rfl (q2 rfl)
      · exact q3
    · exact q3
theorem stl_lle {a b a' : Lv} (h : lle a b) {i : Nat} {v : Value} (hs : stl a i v = some a') : ∃ b', stl b i v = some b' ∧ lle a' b' := by
  obtain ⟨c1, c2⟩ := clr_lle h i
  have hl := h.1
  have one : ∀ w : Value, ∀ k u, ((clr a i).set i (some w))[k]? = some (some u) → ((clr b i).set i (some w))[k]? = some (some u) := fun w k u hk => by
    rw [List.getElem?_set] at hk ⊢
    split
    · rename_i e; rw [if_pos e] at hk; rw [← c1]; exact hk
    · rename_i e; rw [if_neg e] at hk; exact c2 k u (fun q => e q.symm) hk
  unfold stl at hs ⊢
  split at hs
  · rename_i x
    split at hs
    · rename_i q
      cases hs
      refine ⟨((clr b i).set i (some (.long x))).set (i + 1) none, if_pos (by rw [← hl]; exact q), by simp [c1], fun k u hk => ?_⟩
      rw [List.getElem?_set] at hk ⊢
      split
      · rename_i e; rw [if_pos e] at hk; split at hk <;> simp at hk
      · rename_i e; rw [if_neg e] at hk; exact one _ k u hk
    · cases hs
  · split at hs
    · rename_i q
      cases hs
      exact ⟨(clr b i).set i (some v), if_pos (by rw [← hl]; exact q), by simp [c1], fun k u hk => one _ k u hk⟩
    · cases hs
theorem pstep_lle {i : Instr} {pc pc' : Nat} {ls l1 ls' : Lv} {st st' : List Value} (h : pstep i pc ls st = some (pc', l1, st')) (hl : lle ls ls') : ∃ l1', pstep i pc ls' st = some (pc', l1', st') ∧ lle l1 l1' := by
  unfold pstep at h ⊢
  split at h
  all_goals (try dsimp only)
  iterate 6
    · split at h
      · rename_i e; cases h; rw [hl.2 _ _ e]; exact ⟨_, rfl, hl⟩
      · cases h
  iterate 6
    · split at h
      · split at h
        · rename_i e; cases h
          obtain ⟨b', q1, q2⟩ := stl_lle hl e
          rw [q1]; exact ⟨_, rfl, q2⟩
        · cases h
      · cases h
  · split at h
    · rename_i e0
      split at h
      · rename_i e; cases h
        obtain ⟨b', q1, q2⟩ := stl_lle hl e
        rw [hl.2 _ _ e0]; dsimp only; rw [q1]; exact ⟨_, rfl, q2⟩
      · cases h
    · cases h
  · split at h
    · cases h; exact ⟨_, rfl, hl⟩
    · cases h
theorem cstep_lle {P : Cl} {mi : Nat} {me : Me} {rt : Option Value → St → Rs} {cl : Nat → Nat → List Value → St → Rs} {k : Nat → Nat → Lv → List Value → St → Rs} {i : Instr} {c pc : Nat} {ls ls' : Lv} {st : List Value} {s : St} {r : Option Value × St} (hl : lle ls ls')
    (hk : ∀ c pc ls ls' st s, lle ls ls' → k c pc ls st s = some r → k c pc ls' st s = some r) (h : cstep P mi me rt cl k i c pc ls st s = some r) : cstep P mi me rt cl k i c pc ls' st s = some r := by
  unfold cstep at h ⊢
  split at h
  all_goals (try dsimp only)
  · split at h
    · split at h
      · exact hk _ _ _ _ _ _ hl h
      · cases h
    · cases h
  · split at h
    · split at h
      · exact hk _ _ _ _ _ _ hl h
      · cases h
    · cases h
  iterate 6
    · split at h
      · exact hk _ _ _ _ _ _ hl h
      · cases h
  · split at h
    · rename_i q; rw [if_pos q]; exact hk _ _ _ _ _ _ hl h
    · cases h
  iterate 2
    · split at h
      · exact hk _ _ _ _ _ _ hl h
      · cases h
  · split at h
    · split at h
      · rename_i q; rw [if_pos q]; exact hk _ _ _ _ _ _ hl h
      · cases h
    · cases h
  · split at h
    · cases h
    · split at h
      · cases h
      · split at h
        · split at h
          · rename_i q
            rw [if_pos q]
            split at h
            · exact hk _ _ _ _ _ _ hl h
            · exact hk _ _ _ _ _ _ hl h
            · cases h
          · cases h
        · cases h
  · split at h
    · rename_i q; rw [if_pos q]; exact h
    · rename_i q; rw [if_neg q]
      split at h
      · rename_i e
        obtain ⟨l1', q1, q2⟩ := pstep_lle e hl
        rw [q1]; exact hk _ _ _ _ _ _ q2 h
      · cases h
theorem cexec_lle {P : Cl} : ∀ f mi me c pc ls ls' st s r, lle ls ls' → cexec P f mi me c pc ls st s = some r → cexec P f mi me c pc ls' st s = some r := by
  intro f
  induction f with
  | zero => intro mi me c pc ls ls' st s r _ h; cases h
  | succ f ih =>
    intro mi me c pc ls ls' st s r hl h
    rw [cexec] at h ⊢
    split at h
    · cases h
    · exact cstep_lle hl (fun c pc ls ls' st s hl h => ih _ _ _ _ _ _ _ _ _ hl h) h
theorem wpc_lle {P : Cl} {mi : Nat} {me : Me} {c pc : Nat} {ls ls' : Lv} {st : List Value} {s : St} {Q : Option Value → St → Prop} (hl : lle' ls ls') (h : wpc P mi me c pc ls st s Q) : wpc P mi me c pc ls' st s Q := by
  obtain ⟨f, v, s', h1, h2⟩ := h; exact ⟨f, v, s', cexec_lle _ _ _ _ _ _ _ _ _ _ (lle_of hl) h1, h2⟩
end Jvm.LM

namespace Jvm.LM
open Sem ClassFile Op Lib Jvm.Stand Jvm.Free Jvm.LawKit Jvm.RoadKit
theorem lstep_mono {α : Type} {P : Cl} {Q : Lw} {sc : Sc} {mi : Nat} {me : Me} {rt : Option Value → Wd → Option α} {cc cc' : Nat → Nat → List Value → St → Rs} {cl cl' : Nat → List Value → Wd → Rw} {k k' : Nat → Lv → List Value → Wd → Option α} {i : Instr} {pc : Nat} {ls : Lv} {st : List Value} {w : Wd} {r : α}
    (hcc : ∀ m c as s r, cc m c as s = some r → cc' m c as s = some r) (hcl : ∀ m as s r, cl m as s = some r → cl' m as s = some r) (hk : ∀ pc ls st s r, k pc ls st s = some r → k' pc ls st s = some r) (h : lstep P Q sc mi me rt cc cl k i pc ls st w = some r) : lstep P Q sc mi me rt cc' cl' k' i pc ls st w = some r := by
  unfold lstep at h ⊢
  split at h
  all_goals (try dsimp only)
  · split at h
    · split at h
      · rename_i q; rw [if_pos q]; exact hk _ _ _ _ _ h
      · cases h
    · cases h
  · split at h
    · exact hk _ _ _ _ _ h
    · cases h
  · split at h
    · exact hk _ _ _ _ _ h
    · cases h
  · split at h
    · exact hk _ _ _ _ _ h
    · cases h
  · split at h
    · rename_i q; rw [if_pos q]; exact hk _ _ _ _ _ h
    · cases h
  · split at h
    · cases h
    · split at h
      · split at h
        · rename_i q
          rw [if_pos q]
          split at h
          · rename_i s1 hc; rw [hcc _ _ _ _ _ hc]; exact hk _ _ _ _ _ h
          · cases h
        · cases h
      · cases h
  · split at h
    · cases h
    · split at h
      · cases h
      · split at h
        · split at h
          · rename_i q
            rw [if_pos q]
            split at h
            · rename_i s1 hc; rw [hcc _ _ _ _ _ hc]; exact hk _ _ _ _ _ h
            · rename_i v1 s1 hc; rw [hcc _ _ _ _ _ hc]; exact hk _ _ _ _ _ h
            · cases h
          · cases h
        · cases h
  · split at h
    · cases h
    · split at h
      · cases h
      · split at h
        · rename_i q
          rw [if_pos q]
          split at h
          · rename_i s1 hc; rw [hcl _ _ _ _ hc]; exact hk _ _ _ _ _ h
          · rename_i v1 s1 hc; rw [hcl _ _ _ _ hc]; exact hk _ _ _ _ _ h
          · cases h
        · cases h
  · split at h
    · rename_i q; rw [if_pos q]; exact h
    · rename_i q; rw [if_neg q]
      split at h
      · exact hk _ _ _ _ _ h
      · cases h
theorem lexec_succ {P : Cl} {Q : Lw} {sc : Sc} : ∀ f mi me pc ls st w r, lexec P Q sc f mi me pc ls st w = some r → lexec P Q sc (f + 1) mi me pc ls st w = some r := by
  intro f
  induction f with
  | zero => intro mi me pc ls st s r h; cases h
  | succ f ih =>
    intro mi me pc ls st s r h
    rw [lexec] at h ⊢
    split at h
    · cases h
    · refine lstep_mono (fun m c as s r h => ccall_le (Nat.le_succ _) h) (fun m as s r h => ?_) (fun pc ls st s r h => ih _ _ _ _ _ _ _ h) h
      split at h
      · split at h
        · rename_i q; rw [if_pos q]; exact ih _ _ _ _ _ _ _ h
        · cases h
      · cases h
theorem lexec_le {P : Cl} {Q : Lw} {sc : Sc} {f g mi : Nat} {me : Me} {pc : Nat} {ls : Lv} {st : List Value} {w : Wd} {r : Option Value × Wd} (hfg : f ≤ g) (h : lexec P Q sc f mi me pc ls st w = some r) : lexec P Q sc g mi me pc ls st w = some r := by
  obtain ⟨d, rfl⟩ := Nat.le.dest hfg
  induction d with
  | zero => exact h
  | succ d ih => exact lexec_succ _ _ _ _ _ _ _ _ (ih (Nat.le_add_right _ _))
theorem lcall_le {P : Cl} {Q : Lw} {sc : Sc} {f g m' : Nat} {as : List Value} {w : Wd} {r : Option Value × Wd} (hfg : f ≤ g) (h : lcall P Q sc f m' as w = some r) : lcall P Q sc g m' as w = some r := by
  unfold lcall at h ⊢
  split at h
  · split at h
    · rename_i q; rw [if_pos q]; exact lexec_le hfg h
    · cases h
  · cases h
def wpl (P : Cl) (Q : Lw) (sc : Sc) (mi : Nat) (me : Me) (pc : Nat) (ls : Lv) (st : List Value) (w : Wd) (R : Option Value → Wd → Prop) : Prop := ∃ f v w', lexec P Q sc f mi me pc ls st w = some (v, w') ∧ R v w'
def lal (P : Cl) (Q : Lw) (sc : Sc) (m' : Nat) (as : List Value) (w : Wd) (R : Option Value → Wd → Prop) : Prop := ∃ f v w', lcall P Q sc f m' as w = some (v, w') ∧ R v w'
def lalI (P : Cl) (Q : Lw) (sc : Sc) (m' : Nat) (as : List Value) (w : Wd) (R : Int32 → Wd → Prop) : Prop := lal P Q sc m' as w fun r w' => ∃ v, r = some (.int v) ∧ R v w'
def lalL (P : Cl) (Q : Lw) (sc : Sc) (m' : Nat) (as : List Value) (w : Wd) (R : Int64 → Wd → Prop) : Prop := lal P Q sc m' as w fun r w' => ∃ v, r = some (.long v) ∧ R v w'
def lalV (P : Cl) (Q : Lw) (sc : Sc) (m' : Nat) (as : List Value) (w : Wd) (R : Wd → Prop) : Prop := lal P Q sc m' as w fun r w' => r = none ∧ R w'
theorem lal.mono {P : Cl} {Q : Lw} {sc : Sc} {m' : Nat} {as : List Value} {w : Wd} {R R' : Option Value → Wd → Prop} (h : lal P Q sc m' as w R) (hq : ∀ v s', R v s' → R' v s') : lal P Q sc m' as w R' := by
  obtain ⟨f, v, s', h1, h2⟩ := h; exact ⟨f, v, s', h1, hq _ _ h2⟩
theorem lalI.mono {P : Cl} {Q : Lw} {sc : Sc} {m' : Nat} {as : List Value} {w : Wd} {R R' : Int32 → Wd → Prop} (h : lalI P Q sc m' as w R) (hq : ∀ v s', R v s' → R' v s') : lalI P Q sc m' as w R' := lal.mono h fun _ _ ⟨v, e, q⟩ => ⟨v, e, hq _ _ q⟩
theorem lalL.mono {P : Cl} {Q : Lw} {sc : Sc} {m' : Nat} {as : List Value} {w : Wd} {R R' : Int64 → Wd → Prop} (h : lalL P Q sc m' as w R) (hq : ∀ v s', R v s' → R' v s') : lalL P Q sc m' as w R' := lal.mono h fun _ _ ⟨v, e, q⟩ => ⟨v, e, hq _ _ q⟩
theorem lalV.mono {P : Cl} {Q : Lw} {sc : Sc} {m' : Nat} {as : List Value} {w : Wd} {R R' : Wd → Prop} (h : lalV P Q sc m' as w R) (hq : ∀ s', R s' → R' s') : lalV P Q sc m' as w R' := lal.mono h fun _ _ ⟨e, q⟩ => ⟨e, hq _ q⟩
theorem wpl.mono {P : Cl} {Q : Lw} {sc : Sc} {mi : Nat} {me : Me} {pc : Nat} {ls : Lv} {st : List Value} {w : Wd} {R R' : Option Value → Wd → Prop} (h : wpl P Q sc mi me pc ls st w R) (hq : ∀ v s', R v s' → R' v s') : wpl P Q sc mi me pc ls st w R' := by
  obtain ⟨f, v, s', h1, h2⟩ := h; exact ⟨f, v, s', h1, hq _ _ h2⟩
theorem wpl_one {P : Cl} {Q : Lw} {sc : Sc} {mi : Nat} {me : Me} {pc pc' : Nat} {ls ls' : Lv} {st st' : List Value} {w w' : Wd} {R : Option Value → Wd → Prop} {i : Instr} {n : Nat} (hf : fetch me.cd pc = some (i, n))
    (h : ∀ (rt : Option Value → Wd → Rw) cc cl (k : Nat → Lv → List Value → Wd → Rw), lstep P Q sc mi me rt cc cl k i pc ls st w = k pc' ls' st' w') (hq : wpl P Q sc mi me pc' ls' st' w' R) : wpl P Q sc mi me pc ls st w R := by
  obtain ⟨f, v, s2, h1, h2⟩ := hq
  refine ⟨f + 1, v, s2, ?_, h2⟩
  rw [lexec, hf]; dsimp only; rw [h]; exact h1
/-- plain steps: nothing of the heap, no call -/
def isPl : Instr → Bool
  | .iaload => false | .arraylength => false | .ldc _ => false | .ldc2_w _ => false | .new _ => false | .invokespecial _ => false | .invokevirtual _ => false | .invokestatic _ => false
  | .ireturn => false | .lreturn => false | .return_ => false
  | _ => true
theorem lstep_pl {α : Type} {P : Cl} {Q : Lw} {sc : Sc} {mi : Nat} {me : Me} {rt : Option Value → Wd → Option α} {cc : Nat → Nat → List Value → St → Rs} {cl : Nat → List Value → Wd → Rw} {k : Nat → Lv → List Value → Wd → Option α} {i : Instr} {pc : Nat} {ls : Lv} {st : List Value} {w : Wd} (hi : isPl i = true) :
    lstep P Q sc mi me rt cc cl k i pc ls st w = match pstep i pc ls st with | some (pc', ls', st') => k pc' ls' st' w | none => none := by
  cases i <;> first | (cases hi; done) | rfl
def psl (kx : List (Nat × Value)) (cd : Cd) : Nat → Nat → Lv → List Value → Option (Nat × Lv × List Value)
  | 0, pc, ls, st => some (pc, ls, st)
  | n + 1, pc, ls, st => match fetch cd pc with
    | none => none
    | some (i, _) => match i with
      | .ldc x => (match asc kx x with | some (.int z) => psl kx cd n (pc + 2) ls (.int z :: st) | _ => none)
      | .ldc2_w x => (match asc kx x with | some (.long z) => psl kx cd n (pc + 3) ls (.long z :: st) | _ => none)
      | i => if isPl i = true then (match pstep i pc ls st with | some (pc', ls', st') => psl kx cd n pc' ls' st' | none => none) else none
theorem wpl_sl {P : Cl} {Q : Lw} {sc : Sc} {mi : Nat} {me : Me} {w : Wd} {R : Option Value → Wd → Prop} : ∀ {n pc pc' : Nat} {ls ls' : Lv} {st st' : List Value}, psl Q.kx me.cd n pc ls st = some (pc', ls', st') → wpl P Q sc mi me pc' ls' st' w R → wpl P Q sc mi me pc ls st w R := by
  intro n
  induction n with
  | zero => intro pc pc' ls ls' st st' h hq; cases h; exact hq
  | succ n ih =>
    intro pc pc' ls ls' st st' h hq
    simp only [psl] at h
    split at h
    · cases h
    · rename_i i m hf
      split at h
      · split at h
        · rename_i z e
          exact wpl_one hf (fun rt cc cl k => by simp only [lstep, e]) (ih h hq)
        · cases h
      · split at h
        · rename_i z e
          exact wpl_one hf (fun rt cc cl k => by simp only [lstep, e]) (ih h hq)
        · cases h
      · split at h
        · rename_i hi
          split at h
          · rename_i pc1 ls1 st1 e
            exact wpl_one hf (fun rt cc cl k => by rw [lstep_pl hi, e]) (ih h hq)
          · cases h
        · cases h
theorem wpl_ret {P : Cl} {Q : Lw} {sc : Sc} {mi : Nat} {me : Me} {pc : Nat} {ls : Lv} {st : List Value} {w : Wd} {R : Option Value → Wd → Prop} {i : Instr} {n : Nat} {v : Option Value} (hf : fetch me.cd pc = some (i, n)) (hr : isRet i = true) (h : cret me st i = some v) (hq : R v w) : wpl P Q sc mi me pc ls st w R := by
  refine ⟨1, v, w, ?_, hq⟩
  rw [lexec, hf]; dsimp only
  cases i <;> first | (cases hr; done) | (simp only [lstep]; rw [if_pos hr, h])
theorem wpl_if {P : Cl} {Q : Lw} {sc : Sc} {mi : Nat} {me : Me} {pc a b : Nat} {ls : Lv} {r : List Value} {w : Wd} {R : Option Value → Wd → Prop} {cd : ClassFile.Cond} {o : Int} {n : Nat} {x : Int32} (hf : fetch me.cd pc = some (.ifCond cd o, n)) (ho : 0 ≤ (pc : Int) + o) (ha : jmp pc o = a) (hb : pc + 3 = b)
    (hq : wpl P Q sc mi me (br cd x 0 a b) ls r w R) : wpl P Q sc mi me pc ls (.int x :: r) w R := by
  subst ha hb
  refine wpl_one hf (fun rt cc cl k => ?_) hq
  rw [lstep_pl rfl]
  simp only [pstep, qstep]; rw [if_pos ho]
theorem wpl_icmp {P : Cl} {Q : Lw} {sc : Sc} {mi : Nat} {me : Me} {pc a b : Nat} {ls : Lv} {r : List Value} {w : Wd} {R : Option Value → Wd → Prop} {cd : ClassFile.Cond} {o : Int} {n : Nat} {x y : Int32} (hf : fetch me.cd pc = some (.if_icmp cd o, n)) (ho : 0 ≤ (pc : Int) + o) (ha : jmp pc o = a) (hb : pc + 3 = b)
    (hq : wpl P Q sc mi me (br cd x y a b) ls r w R) : wpl P Q sc mi me pc ls (.int y :: .int x :: r) w R := by
  subst ha hb
  refine wpl_one hf (fun rt cc cl k => ?_) hq
  rw [lstep_pl rfl]
  simp only [pstep, qstep]; rw [if_pos ho]
theorem wpl_br {P : Cl} {Q : Lw} {sc : Sc} {mi : Nat} {me : Me} {a b : Nat} {ls : Lv} {st : List Value} {w : Wd} {R : Option Value → Wd → Prop} {p : Prop} [Decidable p] (h : (p → wpl P Q sc mi me a ls st w R) ∧ (¬ p → wpl P Q sc mi me b ls st w R)) : wpl P Q sc mi me (if p then a else b) ls st w R := by
  by_cases hp : p
  · rw [if_pos hp]; exact h.1 hp
  · rw [if_neg hp]; exact h.2 hp
theorem wpl_lda {P : Cl} {Q : Lw} {N : Nat} {g : Nat → Int32} {mi : Nat} {me : Me} {pc : Nat} {ls : Lv} {r : List Value} {w : Wd} {R : Option Value → Wd → Prop} {n : Nat} {j : Int32} (hf : fetch me.cd pc = some (.iaload, n)) (hj : inb N j) (hq : wpl P Q (some (N, g)) mi me (pc + 1) ls (.int (g (ix j)) :: r) w R) : wpl P Q (some (N, g)) mi me pc ls (.int j :: .ref 0 :: r) w R := by
  refine wpl_one hf (fun rt cc cl k => ?_) hq
  simp only [lstep]; rw [if_pos hj]
theorem wpl_len {P : Cl} {Q : Lw} {N : Nat} {g : Nat → Int32} {mi : Nat} {me : Me} {pc : Nat} {ls : Lv} {r : List Value} {w : Wd} {R : Option Value → Wd → Prop} {n : Nat} (hf : fetch me.cd pc = some (.arraylength, n)) (hq : wpl P Q (some (N, g)) mi me (pc + 1) ls (.int (Int32.ofNat N) :: r) w R) : wpl P Q (some (N, g)) mi me pc ls (.ref 0 :: r) w R := by
  refine wpl_one hf (fun rt cc cl k => ?_) hq
  simp only [lstep]
theorem wpl_new {P : Cl} {Q : Lw} {sc : Sc} {me : Me} {pc cnt : Nat} {ls : Lv} {st : List Value} {os : Nat → St} {R : Option Value → Wd → Prop} {n x : Nat} (hf : fetch me.cd pc = some (.new x, n)) (hx : x = Q.cx) (h1 : (cnt + 1) * (P.al.length + 1) ≤ Q.rc) (h2 : (cnt + 1) * (Q.nf + zs P.al P.al.length) ≤ Q.rs)
    (hq : wpl P Q sc 0 me (pc + 3) ls (.ref (cnt + 1) :: st) (uo os cnt s0, cnt, true) R) : wpl P Q sc 0 me pc ls st (os, cnt, false) R := by
  refine wpl_one hf (fun rt cc cl k => ?_) hq
  simp only [lstep]; rw [if_pos ⟨trivial, hx, trivial, h1, h2⟩]
theorem wpl_ctor {P : Cl} {Q : Lw} {sc : Sc} {me me' : Me} {pc cnt : Nat} {ls : Lv} {st r as : List Value} {os : Nat → St} {R : Option Value → Wd → Prop} {n x : Nat} (hf : fetch me.cd pc = some (.invokespecial x, n)) (hx : x = Q.ci) (hme : asc P.ms 0 = some me') (hst : st.drop me'.na = .ref (cnt + 1) :: r) (has : (st.take me'.na).reverse = as)
    (hg : me'.rf + 1 ≤ me.rf ∧ cats r + (me'.ml + 11) + me'.rl ≤ me.rl ∧ nr (st.take me'.na) = true ∧ (cnt + 1) * (P.al.length + 1) ≤ Q.rc ∧ (cnt + 1) * (Q.nf + zs P.al P.al.length) ≤ Q.rs)
    (hq : calV P 0 0 (.ref 0 :: as) (os cnt) fun s' => wpl P Q sc 0 me (pc + 3) ls r (uo os cnt s', cnt + 1, false) R) : wpl P Q sc 0 me pc ls st (os, cnt, true) R := by
  subst has
  obtain ⟨f1, v, s1, h1, rfl, f2, v2, s2, h2, h3⟩ := hq
  refine ⟨max f1 f2 + 1, v2, s2, ?_, h3⟩
  have h1' := ccall_le (Nat.le_max_left f1 f2) h1
  have h2' := lexec_le (Nat.le_max_right f1 f2) h2
  rw [lexec, hf]; dsimp only
  simp only [lstep, hme, hst]
  rw [if_pos ⟨hx, trivial, trivial, trivial, hg⟩, h1']
  exact h2'
theorem wpl_call {P : Cl} {Q : Lw} {sc : Sc} {mi : Nat} {me me' : Me} {pc x m' o : Nat} {ls : Lv} {st r as : List Value} {w : Wd} {R : Option Value → Wd → Prop} {n : Nat} (hf : fetch me.cd pc = some (.invokevirtual x, n)) (hm : asc Q.vx x = some m') (hme : asc P.ms m' = some me') (hst : st.drop me'.na = .ref (o + 1) :: r) (has : (st.take me'.na).reverse = as)
    (hg : m' ≠ 0 ∧ o < w.2.1 ∧ me'.rf + 1 ≤ me.rf ∧ cats r + (me'.ml + 11) + me'.rl ≤ me.rl ∧ nr (st.take me'.na) = true)
    (hq : cal P m' P.al.length (.ref 0 :: as) (w.1 o) fun v s' => wpl P Q sc mi me (pc + 3) ls (v.toList ++ r) (uo w.1 o s', w.2.1, w.2.2) R) : wpl P Q sc mi me pc ls st w R := by
  subst has
  obtain ⟨f1, v, s1, h1, f2, v2, s2, h2, h3⟩ := hq
  refine ⟨max f1 f2 + 1, v2, s2, ?_, h3⟩
  have h1' := ccall_le (Nat.le_max_left f1 f2) h1
  have h2' := lexec_le (Nat.le_max_right f1 f2) h2
  rw [lexec, hf]; dsimp only
  simp only [lstep, hm, hme, hst]
  rw [if_pos hg, h1']
  cases v <;> exact h2'
theorem wpl_stat {P : Cl} {Q : Lw} {sc : Sc} {mi : Nat} {me me' : Me} {pc x m' : Nat} {ls : Lv} {st r as : List Value} {w : Wd} {R : Option Value → Wd → Prop} {n : Nat} (hf : fetch me.cd pc = some (.invokestatic x, n)) (hm : asc Q.sx x = some m') (hme : asc Q.ms m' = some me') (hst : st.drop me'.na = r) (has : (st.take me'.na).reverse = as)
    (hg : m' ≠ 0 ∧ me'.na ≤ st.length ∧ me'.rf + 1 ≤ me.rf ∧ cats r + (me'.ml + 11) + me'.rl ≤ me.rl ∧ nd (st.take me'.na) = true)
    (hq : lal P Q sc m' as w fun v w' => wpl P Q sc mi me (pc + 3) ls (v.toList ++ r) w' R) : wpl P Q sc mi me pc ls st w R := by
  subst has hst
  obtain ⟨f1, v, s1, h1, f2, v2, s2, h2, h3⟩ := hq
  refine ⟨max f1 f2 + 1, v2, s2, ?_, h3⟩
  have h1' := lcall_le (Nat.le_max_left f1 f2) h1
  have h2' := lexec_le (Nat.le_max_right f1 f2) h2
  rw [lexec, hf]; dsimp only
  simp only [lstep, hm, hme]
  rw [if_pos hg]
  simp only [lcall, hme] at h1'
  rw [h1']
  cases v <;> exact h2'
theorem lal_of {P : Cl} {Q : Lw} {sc : Sc} {m' : Nat} {as : List Value} {w : Wd} {R : Option Value → Wd → Prop} {me : Me} {ls : Lv} (hme : asc Q.ms m' = some me) (hl : (layA as).length ≤ me.ml) (hls : lay as me.ml = ls) (h : wpl P Q sc m' me 0 ls [] w R) : lal P Q sc m' as w R := by
  subst hls
  obtain ⟨f, v, s', h1, h2⟩ := h
  refine ⟨f, v, s', ?_, h2⟩
  simp only [lcall, hme]; rw [if_pos hl]; exact h1
theorem lstep_lle {P : Cl} {Q : Lw} {sc : Sc} {mi : Nat} {me : Me} {rt : Option Value → Wd → Rw} {cc : Nat → Nat → List Value → St → Rs} {cl : Nat → List Value → Wd → Rw} {k : Nat → Lv → List Value → Wd → Rw} {i : Instr} {pc : Nat} {ls ls' : Lv} {st : List Value} {w : Wd} {r : Option Value × Wd} (hl : lle ls ls')
    (hk : ∀ pc ls ls' st s, lle ls ls' → k pc ls st s = some r → k pc ls' st s = some r) (h : lstep P Q sc mi me rt cc cl k i pc ls st w = some r) : lstep P Q sc mi me rt cc cl k i pc ls' st w = some r := by
  unfold lstep at h ⊢
  split at h
  all_goals (try dsimp only)
  · split at h
    · split at h
      · rename_i q; rw [if_pos q]; exact hk _ _ _ _ _ hl h
      · cases h
    · cases h
  iterate 3
    · split at h
      · exact hk _ _ _ _ _ hl h
      · cases h
  · split at h
    · rename_i q; rw [if_pos q]; exact hk _ _ _ _ _ hl h
    · cases h
  · split at h
    · cases h
    · split at h
      · split at h
        · rename_i q
          rw [if_pos q]
          split at h
          · exact hk _ _ _ _ _ hl h
          · cases h
        · cases h
      · cases h
  · split at h
    · cases h
    · split at h
      · cases h
      · split at h
        · split at h
          · rename_i q
            rw [if_pos q]
            split at h
            · exact hk _ _ _ _ _ hl h
            · exact hk _ _ _ _ _ hl h
            · cases h
          · cases h
        · cases h
  · split at h
    · cases h
    · split at h
      · cases h
      · split at h
        · rename_i q
          rw [if_pos q]
          split at h
          · exact hk _ _ _ _ _ hl h
          · exact hk _ _ _ _ _ hl h
          · cases h
        · cases h
  · split at h
    · rename_i q; rw [if_pos q]; exact h
    · rename_i q; rw [if_neg q]
      split at h
      · rename_i e
        obtain ⟨l1', q1, q2⟩ := pstep_lle e hl
        rw [q1]; exact hk _ _ _ _ _ q2 h
      · cases h
theorem lexec_lle {P : Cl} {Q : Lw} {sc : Sc} : ∀ f mi me pc ls ls' st w r, lle ls ls' → lexec P Q sc f mi me pc ls st w = some r → lexec P Q sc f mi me pc ls' st w = some r := by
  intro f
  induction f with
  | zero => intro mi me pc ls ls' st w r _ h; cases h
  | succ f ih =>
    intro mi me pc ls ls' st w r hl h
    rw [lexec] at h ⊢
    split at h
    · cases h
    · exact lstep_lle hl (fun pc ls ls' st s hl h => ih _ _ _ _ _ _ _ _ hl h) h
theorem wpl_lle {P : Cl} {Q : Lw} {sc : Sc} {mi : Nat} {me : Me} {pc : Nat} {ls ls' : Lv} {st : List Value} {w : Wd} {R : Option Value → Wd → Prop} (hl : lle' ls ls') (h : wpl P Q sc mi me pc ls st w R) : wpl P Q sc mi me pc ls' st w R := by
  obtain ⟨f, v, s', h1, h2⟩ := h; exact ⟨f, v, s', lexec_lle _ _ _ _ _ _ _ _ _ (lle_of hl) h1, h2⟩
/-! worlds of no, one and two objects -/
def W0 : Wd := (fun _ => s0, 0, false)
def W0p : Wd := (uo (fun _ => s0) 0 s0, 0, true)
def W1 (s : St) : Wd := (uo (fun _ => s0) 0 s, 1, false)
def W1p (s : St) : Wd := (uo (uo (fun _ => s0) 0 s) 1 s0, 1, true)
def W2 (s t : St) : Wd := (uo (uo (fun _ => s0) 0 s) 1 t, 2, false)
theorem uo_uo (f : Nat → St) (o : Nat) (s t : St) : uo (uo f o s) o t = uo f o t := by
  funext i; simp only [uo]; split <;> rfl
theorem uo_swap (f : Nat → St) {o o' : Nat} (h : o ≠ o') (s t : St) : uo (uo f o s) o' t = uo (uo f o' t) o s := by
  funext i; simp only [uo]
  by_cases a : i = o
  · subst a; simp [h]
  · by_cases b : i = o'
    · subst b; simp [Ne.symm h]
    · simp [a, b]
section Worlds
variable {P : Cl} {Q : Lw} {sc : Sc} {mi : Nat} {me me' : Me} {pc x m' : Nat} {ls : Lv} {st r as : List Value} {R : Option Value → Wd → Prop} {n : Nat} {s t : St}
theorem wpl_new0 (hf : fetch me.cd pc = some (.new x, n)) (hx : x = Q.cx) (h1 : 1 * (P.al.length + 1) ≤ Q.rc) (h2 : 1 * (Q.nf + zs P.al P.al.length) ≤ Q.rs) (hq : wpl P Q sc 0 me (pc + 3) ls (.ref 1 :: st) W0p R) : wpl P Q sc 0 me pc ls st W0 R := wpl_new (cnt := 0) hf hx h1 h2 hq
theorem wpl_new1 (hf : fetch me.cd pc = some (.new x, n)) (hx : x = Q.cx) (h1 : 2 * (P.al.length + 1) ≤ Q.rc) (h2 : 2 * (Q.nf + zs P.al P.al.length) ≤ Q.rs) (hq : wpl P Q sc 0 me (pc + 3) ls (.ref 2 :: st) (W1p s) R) : wpl P Q sc 0 me pc ls st (W1 s) R := wpl_new (cnt := 1) hf hx h1 h2 hq
theorem wpl_ctor0 (hf : fetch me.cd pc = some (.invokespecial x, n)) (hx : x = Q.ci) (hme : asc P.ms 0 = some me') (hst : st.drop me'.na = .ref 1 :: r) (has : (st.take me'.na).reverse = as)
    (hg : me'.rf + 1 ≤ me.rf ∧ cats r + (me'.ml + 11) + me'.rl ≤ me.rl ∧ nr (st.take me'.na) = true ∧ 1 * (P.al.length + 1) ≤ Q.rc ∧ 1 * (Q.nf + zs P.al P.al.length) ≤ Q.rs)
    (hq : calV P 0 0 (.ref 0 :: as) s0 fun s' => wpl P Q sc 0 me (pc + 3) ls r (W1 s') R) : wpl P Q sc 0 me pc ls st W0p R := by
  refine wpl_ctor (cnt := 0) hf hx hme hst has hg ?_
  refine calV.mono (show calV P 0 0 (.ref 0 :: as) (uo (fun _ => s0) 0 s0 0) _ from hq) fun s' h => ?_
  rw [uo_uo]; exact h
theorem wpl_ctor1 (hf : fetch me.cd pc = some (.invokespecial x, n)) (hx : x = Q.ci) (hme : asc P.ms 0 = some me') (hst : st.drop me'.na = .ref 2 :: r) (has : (st.take me'.na).reverse = as)
    (hg : me'.rf + 1 ≤ me.rf ∧ cats r + (me'.ml + 11) + me'.rl ≤ me.rl ∧ nr (st.take me'.na) = true ∧ 2 * (P.al.length + 1) ≤ Q.rc ∧ 2 * (Q.nf + zs P.al P.al.length) ≤ Q.rs)
    (hq : calV P 0 0 (.ref 0 :: as) s0 fun s' => wpl P Q sc 0 me (pc + 3) ls r (W2 s s') R) : wpl P Q sc 0 me pc ls st (W1p s) R := by
  refine wpl_ctor (cnt := 1) hf hx hme hst has hg ?_
  refine calV.mono (show calV P 0 0 (.ref 0 :: as) (uo (uo (fun _ => s0) 0 s) 1 s0 1) _ from hq) fun s' h => ?_
  rw [uo_uo]; exact h
theorem wpl_v1 (hf : fetch me.cd pc = some (.invokevirtual x, n)) (hm : asc Q.vx x = some m') (hme : asc P.ms m' = some me') (hst : st.drop me'.na = .ref 1 :: r) (has : (st.take me'.na).reverse = as)
    (hg : m' ≠ 0 ∧ me'.rf + 1 ≤ me.rf ∧ cats r + (me'.ml + 11) + me'.rl ≤ me.rl ∧ nr (st.take me'.na) = true)
    (hq : cal P m' P.al.length (.ref 0 :: as) s fun v s' => wpl P Q sc mi me (pc + 3) ls (v.toList ++ r) (W1 s') R) : wpl P Q sc mi me pc ls st (W1 s) R := by
  refine wpl_call (o := 0) hf hm hme hst has ⟨hg.1, by show 0 < 1; decide, hg.2⟩ ?_
  refine cal.mono (show cal P m' P.al.length (.ref 0 :: as) ((W1 s).1 0) _ from hq) fun v s' h => ?_
  show wpl P Q sc mi me (pc + 3) ls (v.toList ++ r) (uo (uo (fun _ => s0) 0 s) 0 s', 1, false) R
  rw [uo_uo]; exact h
theorem wpl_v2a (hf : fetch me.cd pc = some (.invokevirtual x, n)) (hm : asc Q.vx x = some m') (hme : asc P.ms m' = some me') (hst : st.drop me'.na = .ref 1 :: r) (has : (st.take me'.na).reverse = as)
    (hg : m' ≠ 0 ∧ me'.rf + 1 ≤ me.rf ∧ cats r + (me'.ml + 11) + me'.rl ≤ me.rl ∧ nr (st.take me'.na) = true)
    (hq : cal P m' P.al.length (.ref 0 :: as) s fun v s' => wpl P Q sc mi me (pc + 3) ls (v.toList ++ r) (W2 s' t) R) : wpl P Q sc mi me pc ls st (W2 s t) R := by
  refine wpl_call (o := 0) hf hm hme hst has ⟨hg.1, by show 0 < 2; decide, hg.2⟩ ?_
  refine cal.mono (show cal P m' P.al.length (.ref 0 :: as) ((W2 s t).1 0) _ from hq) fun v s' h => ?_
  show wpl P Q sc mi me (pc + 3) ls (v.toList ++ r) (uo (uo (uo (fun _ => s0) 0 s) 1 t) 0 s', 2, false) R
  rw [uo_swap _ (by decide), uo_uo]; exact h
theorem wpl_v2b (hf : fetch me.cd pc = some (.invokevirtual x, n)) (hm : asc Q.vx x = some m') (hme : asc P.ms m' = some me') (hst : st.drop me'.na = .ref 2 :: r) (has : (st.take me'.na).reverse = as)
    (hg : m' ≠ 0 ∧ me'.rf + 1 ≤ me.rf ∧ cats r + (me'.ml + 11) + me'.rl ≤ me.rl ∧ nr (st.take me'.na) = true)
    (hq : cal P m' P.al.length (.ref 0 :: as) t fun v s' => wpl P Q sc mi me (pc + 3) ls (v.toList ++ r) (W2 s s') R) : wpl P Q sc mi me pc ls st (W2 s t) R := by
  refine wpl_call (o := 1) hf hm hme hst has ⟨hg.1, by show 1 < 2; decide, hg.2⟩ ?_
  refine cal.mono (show cal P m' P.al.length (.ref 0 :: as) ((W2 s t).1 1) _ from hq) fun v s' h => ?_
  show wpl P Q sc mi me (pc + 3) ls (v.toList ++ r) (uo (uo (uo (fun _ => s0) 0 s) 1 t) 1 s', 2, false) R
  rw [uo_uo]; exact h
end Worlds
theorem cal_I {P : Cl} {m' c : Nat} {as : List Value} {s : St} {F : Option Value → St → Prop} (h : calI P m' c as s fun v s' => F (some (.int v)) s') : cal P m' c as s F := cal.mono h fun _ _ ⟨v, e, q⟩ => by subst e; exact q
theorem cal_L {P : Cl} {m' c : Nat} {as : List Value} {s : St} {F : Option Value → St → Prop} (h : calL P m' c as s fun v s' => F (some (.long v)) s') : cal P m' c as s F := cal.mono h fun _ _ ⟨v, e, q⟩ => by subst e; exact q
theorem cal_V {P : Cl} {m' c : Nat} {as : List Value} {s : St} {F : Option Value → St → Prop} (h : calV P m' c as s fun s' => F none s') : cal P m' c as s F := cal.mono h fun _ _ ⟨e, q⟩ => by subst e; exact q
theorem lal_I {P : Cl} {Q : Lw} {sc : Sc} {m' : Nat} {as : List Value} {w : Wd} {F : Option Value → Wd → Prop} (h : lalI P Q sc m' as w fun v w' => F (some (.int v)) w') : lal P Q sc m' as w F := lal.mono h fun _ _ ⟨v, e, q⟩ => by subst e; exact q
theorem lal_L {P : Cl} {Q : Lw} {sc : Sc} {m' : Nat} {as : List Value} {w : Wd} {F : Option Value → Wd → Prop} (h : lalL P Q sc m' as w fun v w' => F (some (.long v)) w') : lal P Q sc m' as w F := lal.mono h fun _ _ ⟨v, e, q⟩ => by subst e; exact q
theorem lal_V {P : Cl} {Q : Lw} {sc : Sc} {m' : Nat} {as : List Value} {w : Wd} {F : Option Value → Wd → Prop} (h : lalV P Q sc m' as w fun w' => F none w') : lal P Q sc m' as w F := lal.mono h fun _ _ ⟨e, q⟩ => by subst e; exact q
end Jvm.LM

namespace Jvm.LM
open Sem ClassFile Op Lib Jvm.Stand Jvm.Free Jvm.LawKit Jvm.RoadKit
/-! rules for the steps that ask something -/
abbrev wpcI (P : Cl) (mi : Nat) (me : Me) (c pc : Nat) (ls : Lv) (st : List Value) (s : St) (Q : Int32 → St → Prop) : Prop := wpc P mi me c pc ls st s fun r s' => ∃ v, r = some (.int v) ∧ Q v s'
abbrev wpcL (P : Cl) (mi : Nat) (me : Me) (c pc : Nat) (ls : Lv) (st : List Value) (s : St) (Q : Int64 → St → Prop) : Prop := wpc P mi me c pc ls st s fun r s' => ∃ v, r = some (.long v) ∧ Q v s'
abbrev wpcV (P : Cl) (mi : Nat) (me : Me) (c pc : Nat) (ls : Lv) (st : List Value) (s : St) (Q : St → Prop) : Prop := wpc P mi me c pc ls st s fun r s' => r = none ∧ Q s'
abbrev wplI (P : Cl) (Q : Lw) (sc : Sc) (mi : Nat) (me : Me) (pc : Nat) (ls : Lv) (st : List Value) (w : Wd) (R : Int32 → Wd → Prop) : Prop := wpl P Q sc mi me pc ls st w fun r w' => ∃ v, r = some (.int v) ∧ R v w'
abbrev wplL (P : Cl) (Q : Lw) (sc : Sc) (mi : Nat) (me : Me) (pc : Nat) (ls : Lv) (st : List Value) (w : Wd) (R : Int64 → Wd → Prop) : Prop := wpl P Q sc mi me pc ls st w fun r w' => ∃ v, r = some (.long v) ∧ R v w'
abbrev wplV (P : Cl) (Q : Lw) (sc : Sc) (mi : Nat) (me : Me) (pc : Nat) (ls : Lv) (st : List Value) (w : Wd) (R : Wd → Prop) : Prop := wpl P Q sc mi me pc ls st w fun r w' => r = none ∧ R w'
section C
variable {P : Cl} {mi : Nat} {me : Me} {c pc a N n : Nat} {ls : Lv} {r : List Value} {s s' : St} {Q : Option Value → St → Prop} {j : Int32}
theorem wpc_ldaI {v : Int32} (hf : fetch me.cd pc = some (.iaload, n)) (ha : P.al[a]? = some (0, N)) (hac : a < c) (hj : inb N j) (hv : gI s (a + 1) (ix j) = v) (hq : wpc P mi me c (pc + 1) ls (.int v :: r) s Q) : wpc P mi me c pc ls (.int j :: .ref (a + 1) :: r) s Q := by
  subst hv; exact wpc_lda hf (Or.inl ⟨rfl, rfl⟩) ha hac hj hq
theorem wpc_ldaZ {v : Int32} (hf : fetch me.cd pc = some (.baload, n)) (ha : P.al[a]? = some (1, N)) (hac : a < c) (hj : inb N j) (hv : gI s (a + 1) (ix j) = v) (hq : wpc P mi me c (pc + 1) ls (.int v :: r) s Q) : wpc P mi me c pc ls (.int j :: .ref (a + 1) :: r) s Q := by
  subst hv; exact wpc_lda hf (Or.inr (Or.inl ⟨rfl, rfl⟩)) ha hac hj hq
theorem wpc_ldaJ {v : Int64} (hf : fetch me.cd pc = some (.laload, n)) (ha : P.al[a]? = some (2, N)) (hac : a < c) (hj : inb N j) (hv : gL s (a + 1) (ix j) = v) (hq : wpc P mi me c (pc + 1) ls (.long v :: r) s Q) : wpc P mi me c pc ls (.int j :: .ref (a + 1) :: r) s Q := by
  subst hv; exact wpc_lda hf (Or.inr (Or.inr ⟨rfl, rfl⟩)) ha hac hj hq
theorem wpc_staI {z : Int32} (hf : fetch me.cd pc = some (.iastore, n)) (ha : P.al[a]? = some (0, N)) (hac : a < c) (hj : inb N j) (hs : sI s (a + 1) (ix j) z = s') (hq : wpc P mi me c (pc + 1) ls r s' Q) : wpc P mi me c pc ls (.int z :: .int j :: .ref (a + 1) :: r) s Q :=
  wpc_sta hf (Or.inl ⟨rfl, rfl, z, rfl, hs.symm⟩) ha hac hj hq
theorem wpc_staZ {z : Int32} (hf : fetch me.cd pc = some (.bastore, n)) (ha : P.al[a]? = some (1, N)) (hac : a < c) (hj : inb N j) (hs : sI s (a + 1) (ix j) (z &&& 1) = s') (hq : wpc P mi me c (pc + 1) ls r s' Q) : wpc P mi me c pc ls (.int z :: .int j :: .ref (a + 1) :: r) s Q :=
  wpc_sta hf (Or.inr (Or.inl ⟨rfl, rfl, z, rfl, hs.symm⟩)) ha hac hj hq
theorem wpc_staJ {z : Int64} (hf : fetch me.cd pc = some (.lastore, n)) (ha : P.al[a]? = some (2, N)) (hac : a < c) (hj : inb N j) (hs : sL s (a + 1) (ix j) z = s') (hq : wpc P mi me c (pc + 1) ls r s' Q) : wpc P mi me c pc ls (.long z :: .int j :: .ref (a + 1) :: r) s Q :=
  wpc_sta hf (Or.inr (Or.inr ⟨rfl, rfl, z, rfl, hs.symm⟩)) ha hac hj hq
theorem wpc_pl {i : Instr} {pc' : Nat} {ls' : Lv} {st st' : List Value} (hf : fetch me.cd pc = some (i, n)) (hi : ∀ (rt : Option Value → St → Rs) cl (k : Nat → Nat → Lv → List Value → St → Rs), cstep P mi me rt cl k i c pc ls st s = match pstep i pc ls st with | some (pc', ls', st') => k c pc' ls' st' s | none => none) (h : pstep i pc ls st = some (pc', ls', st')) (hq : wpc P mi me c pc' ls' st' s Q) : wpc P mi me c pc ls st s Q :=
  wpc_one hf (fun rt cl k => by rw [hi, h]) hq
theorem wpc_idiv {x y : Int32} (hf : fetch me.cd pc = some (.idiv, n)) (hy : ¬ y = 0) (hq : wpc P mi me c (pc + 1) ls (.int (x / y) :: r) s Q) : wpc P mi me c pc ls (.int y :: .int x :: r) s Q :=
  wpc_pl hf (fun _ _ _ => rfl) (by simp only [pstep, qstep]; rw [if_neg hy]) hq
theorem wpc_irem {x y : Int32} (hf : fetch me.cd pc = some (.irem, n)) (hy : ¬ y = 0) (hq : wpc P mi me c (pc + 1) ls (.int (x % y) :: r) s Q) : wpc P mi me c pc ls (.int y :: .int x :: r) s Q :=
  wpc_pl hf (fun _ _ _ => rfl) (by simp only [pstep, qstep]; rw [if_neg hy]) hq
theorem wpc_ldiv {x y : Int64} (hf : fetch me.cd pc = some (.ldiv, n)) (hy : ¬ y = 0) (hq : wpc P mi me c (pc + 1) ls (.long (x / y) :: r) s Q) : wpc P mi me c pc ls (.long y :: .long x :: r) s Q :=
  wpc_pl hf (fun _ _ _ => rfl) (by simp only [pstep, qstep]; rw [if_neg hy]) hq
end C
/-- the roads of a switch: one a value, from l on -/
def TS (x : Int32) (F : Int → Prop) : List Int → Int → Prop
  | [], _ => True
  | o :: r, l => (x.toInt = l → F o) ∧ TS x F r (l + 1)
theorem TS_at {x : Int32} {F : Int → Prop} : ∀ {os : List Int} {l : Int}, TS x F os l → l ≤ x.toInt → x.toInt < l + os.length → ∃ o, os[(x.toInt - l).toNat]? = some o ∧ F o := by
  intro os
  induction os with
  | nil => intro l _ h1 h2; simp at h2; omega
  | cons o r ih =>
    intro l h h1 h2
    by_cases e : x.toInt = l
    · exact ⟨o, by rw [e]; simp, h.1 e⟩
    · obtain ⟨o', q1, q2⟩ := ih h.2 (by omega) (by simp at h2; omega)
      refine ⟨o', ?_, q2⟩
      have : (x.toInt - l).toNat = (x.toInt - (l + 1)).toNat + 1 := by omega
      rw [this]; simpa using q1
theorem tsw_ok {x : Int32} {F : Int → Prop} {pc : Nat} {ls : Lv} {r : List Value} {d lo hi : Int} {offs : Array Int} (hd : 0 ≤ (pc : Int) + d) (ho : ∀ o ∈ offs.toList, 0 ≤ (pc : Int) + o) (hh : hi + 1 = lo + offs.toList.length)
    (h1 : TS x F offs.toList lo) (h2 : (x.toInt < lo ∨ x.toInt > hi) → F d) : ∃ o, F o ∧ pstep (.tableswitch d lo hi offs) pc ls (.int x :: r) = some (jmp pc o, ls, r) := by
  by_cases hx : x.toInt < lo ∨ x.toInt > hi
  · refine ⟨d, h2 hx, ?_⟩
    simp only [pstep, qstep]; rw [if_pos hx, if_pos hd]
  · obtain ⟨o, q1, q2⟩ := TS_at h1 (by omega) (by omega)
    have q3 : offs[(x.toInt - lo).toNat]? = some o := by rw [← Array.getElem?_toList]; exact q1
    refine ⟨o, q2, ?_⟩
    simp only [pstep, qstep]; rw [if_neg hx, q3]; dsimp only; rw [if_pos (ho o (List.mem_of_getElem? q1))]
theorem wpc_tsw {P : Cl} {mi : Nat} {me : Me} {c pc n : Nat} {ls : Lv} {r : List Value} {s : St} {Q : Option Value → St → Prop} {x : Int32} {d lo hi : Int} {offs : Array Int} (hf : fetch me.cd pc = some (.tableswitch d lo hi offs, n)) (hd : 0 ≤ (pc : Int) + d) (ho : ∀ o ∈ offs.toList, 0 ≤ (pc : Int) + o) (hh : hi + 1 = lo + offs.toList.length)
    (h1 : TS x (fun o => wpc P mi me c (jmp pc o) ls r s Q) offs.toList lo) (h2 : (x.toInt < lo ∨ x.toInt > hi) → wpc P mi me c (jmp pc d) ls r s Q) : wpc P mi me c pc ls (.int x :: r) s Q := by
  obtain ⟨o, q1, q2⟩ := tsw_ok (ls := ls) (r := r) hd ho hh h1 h2
  exact wpc_pl hf (fun _ _ _ => rfl) q2 q1
section L
variable {P : Cl} {Q : Lw} {sc : Sc} {mi : Nat} {me : Me} {pc n : Nat} {ls : Lv} {r : List Value} {w : Wd} {R : Option Value → Wd → Prop}
theorem wpl_pl {i : Instr} {pc' : Nat} {ls' : Lv} {st st' : List Value} (hf : fetch me.cd pc = some (i, n)) (hi : isPl i = true) (h : pstep i pc ls st = some (pc', ls', st')) (hq : wpl P Q sc mi me pc' ls' st' w R) : wpl P Q sc mi me pc ls st w R :=
  wpl_one hf (fun rt cc cl k => by rw [lstep_pl hi, h]) hq
theorem wpl_idiv {x y : Int32} (hf : fetch me.cd pc = some (.idiv, n)) (hy : ¬ y = 0) (hq : wpl P Q sc mi me (pc + 1) ls (.int (x / y) :: r) w R) : wpl P Q sc mi me pc ls (.int y :: .int x :: r) w R :=
  wpl_pl hf rfl (by simp only [pstep, qstep]; rw [if_neg hy]) hq
theorem wpl_irem {x y : Int32} (hf : fetch me.cd pc = some (.irem, n)) (hy : ¬ y = 0) (hq : wpl P Q sc mi me (pc + 1) ls (.int (x % y) :: r) w R) : wpl P Q sc mi me pc ls (.int y :: .int x :: r) w R :=
  wpl_pl hf rfl (by simp only [pstep, qstep]; rw [if_neg hy]) hq
theorem wpl_ldiv {x y : Int64} (hf : fetch me.cd pc = some (.ldiv, n)) (hy : ¬ y = 0) (hq : wpl P Q sc mi me (pc + 1) ls (.long (x / y) :: r) w R) : wpl P Q sc mi me pc ls (.long y :: .long x :: r) w R :=
  wpl_pl hf rfl (by simp only [pstep, qstep]; rw [if_neg hy]) hq
theorem wpl_tsw {x : Int32} {d lo hi : Int} {offs : Array Int} (hf : fetch me.cd pc = some (.tableswitch d lo hi offs, n)) (hd : 0 ≤ (pc : Int) + d) (ho : ∀ o ∈ offs.toList, 0 ≤ (pc : Int) + o) (hh : hi + 1 = lo + offs.toList.length)
    (h1 : TS x (fun o => wpl P Q sc mi me (jmp pc o) ls r w R) offs.toList lo) (h2 : (x.toInt < lo ∨ x.toInt > hi) → wpl P Q sc mi me (jmp pc d) ls r w R) : wpl P Q sc mi me pc ls (.int x :: r) w R := by
  obtain ⟨o, q1, q2⟩ := tsw_ok (ls := ls) (r := r) hd ho hh h1 h2
  exact wpl_pl hf rfl q2 q1
end L
/-! the links, by lists -/
def AllA {α : Type} (Q : Nat → α → Prop) : List (Nat × α) → Prop
  | [] => True
  | (a, b) :: r => Q a b ∧ AllA Q r
theorem asc_all {α : Type} {Q : Nat → α → Prop} {l : List (Nat × α)} (h : AllA Q l) : ∀ k v, asc l k = some v → Q k v := by
  induction l with
  | nil => intro k v e; cases e
  | cons x r ih =>
    intro k v e
    obtain ⟨a, b⟩ := x
    simp only [asc] at e
    cases q : Nat.beq a k
    · rw [q] at e; exact ih h.2 k v e
    · rw [q] at e; cases e
      obtain rfl := Nat.eq_of_beq_eq_true q
      exact h.1
def AllL (Q : Nat → Nat → Prop) : List (Nat × Nat) → Prop
  | [] => True
  | (a, b) :: r => Q a b ∧ AllL Q r
theorem lst_all {Q : Nat → Nat → Prop} {l : List (Nat × Nat)} (h : AllL Q l) : ∀ (j tt N : Nat), l[j]? = some (tt, N) → Q tt N := by
  induction l with
  | nil => intro j tt N e; simp at e
  | cons x r ih =>
    intro j tt N e
    obtain ⟨a, b⟩ := x
    cases j with
    | zero => simp at e; obtain ⟨rfl, rfl⟩ := e; exact h.1
    | succ j => simp at e; exact ih h.2 j tt N e
def dst1 (k : Nat) (fe : Fe) : List (Nat × Fe) → Bool
  | [] => true
  | (k', fe') :: r => (!(fe.1 == fe'.1)) && (decide (fe.2.2.1 < 3) || !(Nat.beq fe.2.2.1 fe'.2.2.1)) && dst1 k fe r
def dst : List (Nat × Fe) → Bool
  | [] => true
  | (k, fe) :: r => dst1 k fe r && dst r
theorem dst1_ok {k : Nat} {fe : Fe} {l : List (Nat × Fe)} (h : dst1 k fe l = true) : ∀ k' fe', asc l k' = some fe' → fe.1 ≠ fe'.1 ∧ (3 ≤ fe.2.2.1 → fe.2.2.1 ≠ fe'.2.2.1) := by
  induction l with
  | nil => intro k' fe' e; cases e
  | cons x r ih =>
    intro k' fe' e
    obtain ⟨a, b⟩ := x
    simp only [dst1, Bool.and_eq_true] at h
    obtain ⟨⟨h1, h2⟩, h3⟩ := h
    simp only [asc] at e
    cases q : Nat.beq a k'
    · rw [q] at e; exact ih h3 k' fe' e
    · rw [q] at e; cases e
      refine ⟨fun q2 => by rw [q2] at h1; simp at h1, fun q2 q3 => ?_⟩
      rw [q3] at h2 q2
      simp only [Bool.or_eq_true, decide_eq_true_eq, Bool.not_eq_true'] at h2
      rcases h2 with h2 | h2
      · omega
      · rw [Nat.beq_refl] at h2; cases h2
theorem dst_ok {l : List (Nat × Fe)} (h : dst l = true) : ∀ (k k' : Nat) (fe fe' : Fe), asc l k = some fe → asc l k' = some fe' → k ≠ k' → fe.1 ≠ fe'.1 ∧ (3 ≤ fe.2.2.1 → fe.2.2.1 ≠ fe'.2.2.1) := by
  induction l with
  | nil => intro k k' fe fe' e; cases e
  | cons x r ih =>
    intro k k' fe fe' e e' hne
    obtain ⟨a, b⟩ := x
    simp only [dst, Bool.and_eq_true] at h
    simp only [asc] at e e'
    cases q : Nat.beq a k <;> cases q' : Nat.beq a k' <;> rw [q] at e <;> rw [q'] at e'
    · exact ih h.2 k k' fe fe' e e' hne
    · cases e'
      obtain ⟨h1, h2⟩ := dst1_ok h.1 k fe e
      exact ⟨Ne.symm h1, fun z1 z2 => h2 (z2 ▸ z1) z2.symm⟩
    · cases e; exact dst1_ok h.1 k' fe' e'
    · exact absurd ((Nat.eq_of_beq_eq_true q).symm.trans (Nat.eq_of_beq_eq_true q')) hne
def chk (bytes : ByteArray) : Cd → Bool
  | [] => true
  | (pc, i, n) :: r => (match decode bytes pc with | .ok (i', n') => decide (i' = i ∧ n' = n) | .error _ => false) && (isSw i || Nat.beq n (ilen i)) && chk bytes r
theorem chk_ok {bytes : ByteArray} {cd : Cd} (h : chk bytes cd = true) : ∀ pc i n, fetch cd pc = some (i, n) → decode bytes pc = .ok (i, n) ∧ (isSw i = true ∨ n = ilen i) := by
  induction cd with
  | nil => intro pc i n e; cases e
  | cons x r ih =>
    intro pc i n e
    obtain ⟨a, i', n'⟩ := x
    simp only [chk, Bool.and_eq_true] at h
    obtain ⟨⟨h1, h2⟩, h3⟩ := h
    simp only [fetch] at e
    cases q : Nat.beq a pc
    · rw [q] at e; exact ih h3 pc i n e
    · rw [q] at e; cases e
      obtain rfl := Nat.eq_of_beq_eq_true q
      refine ⟨?_, ?_⟩
      · split at h1
        · rename_i i2 n2 hd
          obtain ⟨rfl, rfl⟩ := of_decide_eq_true h1
          exact hd
        · cases h1
      · simp only [Bool.or_eq_true] at h2
        exact h2.imp id Nat.eq_of_beq_eq_true
/-- the array that the law is handed -/
theorem script_of {s : State} {args : Array Value} {a : Addr} {cl : Cell} {t : Term} {k : Int32} (hf : Fit s) (A : Arr s s.heap a cl .int) (ev : t.eval args s none [] s = some (.ref a)) (hl : (Cond.le (Term.length t) (Term.int k)).value args s none s [] = some true) :
    (cl.slots.size < 2 ^ 31 ∧ (cl.slots.size : Int) ≤ k.toInt) ∧ SRep s s.heap a s.heap.size (some (cl.slots.size, fun i => match cl.slots[i]? with | some (.int x) => x | _ => 0)) := by
  obtain ⟨x, y, h1, h2, -⟩ := cmp_v (Or.inr (Or.inr hl))
  have hz : cl.slots.size < 2 ^ 31 := by
    have q : (Term.length t).eval args s none [] s = if cl.slots.size < 2 ^ 31 then some (.int cl.slots.size.toInt32) else none := by simp [Term.eval, ev, A.fin (Vm.Alike.refl _)]
    rw [h1] at q
    split at q
    · assumption
    · cases q
  have h1' := len_f ev (A.fin (Vm.Alike.refl _)) hz (args := args) (first := s) (o := none) (idx := [])
  have hle := gotT (Cond.le_ints h1' (Term.int_eval k)) hl
  rw [Int32.le_iff_toInt_le, len_toInt hz] at hle
  refine ⟨⟨hz, hle⟩, A.lt, cl, A, rfl, fun i hi => ?_⟩
  have e1 : cl.slots[i]? = some cl.slots[i] := Array.getElem?_eq_getElem hi
  have q := elem_fit hf A (j := i.toInt32) (idx_in hi hz)
  have e2 : i.toInt32.toNatClampNeg = i := by
    have := len_toInt (n := i) (by omega)
    simp only [Int32.toNatClampNeg, this]; rfl
  rw [e2] at q
  obtain ⟨v, hv, hfv⟩ := q
  obtain ⟨x, rfl⟩ := fit_I hfv (Or.inl rfl)
  rw [hv]
  dsimp only
  rw [hv]
end Jvm.LM
namespace Jvm.LM
theorem law_run {P : Cl} {Q : Lw} {sc : Sc} {as : List Value} (h : lalI P Q sc 0 as W0 fun v _ => v = 1) {me : Me} (hme : asc Q.ms 0 = some me) : ∃ f w', lexec P Q sc f 0 me 0 (lay as me.ml) [] W0 = some (some (.int 1), w') := by
  obtain ⟨f, v, w', h1, v', rfl, rfl⟩ := h
  refine ⟨f, w', ?_⟩
  simp only [lcall, hme] at h1
  split at h1
  · exact h1
  · cases h1
end Jvm.LM

namespace Jvm.LM
open Jvm.RoadKit
/-! numbers -/
theorem i32_add {x y : Int32} (h1 : -2147483648 ≤ x.toInt + y.toInt) (h2 : x.toInt + y.toInt < 2147483648) : (x + y).toInt = x.toInt + y.toInt := by
  have := c_iadd x y; have := rng32 (x + y); omega
theorem i32_sub {x y : Int32} (h1 : -2147483648 ≤ x.toInt - y.toInt) (h2 : x.toInt - y.toInt < 2147483648) : (x - y).toInt = x.toInt - y.toInt := by
  have := c_isub x y; have := rng32 (x - y); omega
theorem i32_mul {x y : Int32} (h1 : -2147483648 ≤ x.toInt * y.toInt) (h2 : x.toInt * y.toInt < 2147483648) : (x * y).toInt = x.toInt * y.toInt := by
  have := c_imul x y; have := rng32 (x * y); omega
theorem ix_int {i : Int32} (h : 0 ≤ i.toInt) : (ix i : Int) = i.toInt := by simp only [ix, Int32.toNatClampNeg]; omega
theorem ix_inj {i j : Int32} (hi : 0 ≤ i.toInt) (hj : 0 ≤ j.toInt) : ix i = ix j ↔ i = j := by
  have a := ix_int hi; have b := ix_int hj
  rw [← Int32.toInt_inj]; omega
theorem i32_lt {x y : Int32} : x < y ↔ x.toInt < y.toInt := Int32.lt_iff_toInt_lt
theorem i32_eq {x y : Int32} : x = y ↔ x.toInt = y.toInt := Int32.toInt_inj.symm
/-- a loop that counts up to N: from the next turn to this one -/
theorem loop_up {F : Int32 → Prop} (N : Int) (hN : N < 2147483647) (step : ∀ i, 0 ≤ i.toInt → i.toInt < N → (i + 1).toInt = i.toInt + 1 → F (i + 1) → F i) (last : ∀ i, i.toInt = N → F i) : ∀ i, 0 ≤ i.toInt → i.toInt ≤ N → F i := by
  have key : ∀ n : Nat, ∀ i : Int32, 0 ≤ i.toInt → i.toInt + n = N → F i := by
    intro n
    induction n with
    | zero => intro i h0 h1; exact last i (by omega)
    | succ n ih =>
      intro i h0 h1
      have e : (i + 1).toInt = i.toInt + 1 := i32_add (by simp; omega) (by simp; omega)
      exact step i h0 (by omega) e (ih (i + 1) (by omega) (by omega))
  intro i h0 h1
  exact key (N - i.toInt).toNat i h0 (by omega)
theorem cmpL_lt {x y : Int64} : Jvm.Free.XT.cmpL x y < 0 ↔ x < y := by
  unfold Jvm.Free.XT.cmpL; split
  · rename_i h; exact ⟨fun q => absurd q (by decide), fun q => by rw [Int64.lt_iff_toInt_lt] at h q; omega⟩
  · split
    · rename_i h; subst h; exact ⟨fun q => absurd q (by decide), fun q => by rw [Int64.lt_iff_toInt_lt] at q; omega⟩
    · rename_i h1 h2
      refine ⟨fun _ => ?_, fun _ => by decide⟩
      rw [Int64.lt_iff_toInt_lt] at h1 ⊢; rw [← Int64.toInt_inj] at h2; omega
theorem cmpL_gt {x y : Int64} : 0 < Jvm.Free.XT.cmpL x y ↔ y < x := by
  unfold Jvm.Free.XT.cmpL; split
  · rename_i h; exact ⟨fun _ => h, fun _ => by decide⟩
  · rename_i h; split
    · exact ⟨fun q => absurd q (by decide), fun q => absurd q h⟩
    · exact ⟨fun q => absurd q (by decide), fun q => absurd q h⟩
theorem cmpL_eq {x y : Int64} : Jvm.Free.XT.cmpL x y = 0 ↔ x = y := by
  unfold Jvm.Free.XT.cmpL; split
  · rename_i h; exact ⟨fun q => absurd q (by decide), fun q => by subst q; rw [Int64.lt_iff_toInt_lt] at h; omega⟩
  · split
    · rename_i h; exact ⟨fun _ => h, fun _ => rfl⟩
    · rename_i h1 h2; exact ⟨fun q => absurd q (by decide), fun q => absurd q h2⟩
end Jvm.LM

namespace Jvm.Pilot.@@N@@
open Jvm Jvm.ClassFile Sem Op Lib Jvm.Free Jvm.Stand Jvm.LawKit Jvm.RoadKit Jvm.LM Bundle Jvm.Pilot.@@N@@.Jvm.D
def cm0 : Me := ("<init>", "(II)V", 2, 0, [(0, .aload_n 0, 1), (1, .invokespecial 1, 3), (4, .aload_n 0, 1), (5, .bipush 16, 2), (7, .newarray .int, 2), (9, .putfield 7, 3), (12, .aload_n 0, 1), (13, .bipush 16, 2), (15, .newarray .int, 2), (17, .putfield 13, 3), (20, .aload_n 0, 1), (21, .bipush 96, 2), (23, .newarray .int, 2), (25, .putfield 16, 3), (28, .aload_n 0, 1), (29, .bipush 8, 2), (31, .newarray .boolean, 2), (33, .putfield 19, 3), (36, .aload_n 0, 1), (37, .bipush 8, 2), (39, .newarray .int, 2), (41, .putfield 23, 3), (44, .aload_n 0, 1), (45, .bipush 8, 2), (47, .newarray .int, 2), (49, .putfield 26, 3), (52, .aload_n 0, 1), (53, .sipush 128, 3), (56, .newarray .int, 2), (58, .putfield 29, 3), (61, .aload_n 0, 1), (62, .sipush 256, 3), (65, .newarray .int, 2), (67, .putfield 32, 3), (70, .aload_n 0, 1), (71, .bipush 32, 2), (73, .newarray .int, 2), (75, .putfield 35, 3), (78, .aload_n 0, 1), (79, .sipush 256, 3), (82, .newarray .int, 2), (84, .putfield 38, 3), (87, .aload_n 0, 1), (88, .sipush 256, 3), (91, .newarray .int, 2), (93, .putfield 41, 3), (96, .aload_n 0, 1), (97, .sipush 256, 3), (100, .newarray .int, 2), (102, .putfield 44, 3), (105, .aload_n 0, 1), (106, .sipush 256, 3), (109, .newarray .int, 2), (111, .putfield 47, 3), (114, .aload_n 0, 1), (115, .bipush 64, 2), (117, .newarray .int, 2), (119, .putfield 50, 3), (122, .aload_n 0, 1), (123, .aload_n 0, 1), (124, .iload_n 1, 1), (125, .iconst 1, 1), (126, .bipush 8, 2), (128, .invokevirtual 53, 3), (131, .putfield 57, 3), (134, .aload_n 0, 1), (135, .aload_n 0, 1), (136, .iload_n 2, 1), (137, .iconst 1, 1), (138, .bipush 15, 2), (140, .invokevirtual 53, 3), (143, .putfield 61, 3), (146, .aload_n 0, 1), (147, .iconst 0, 1), (148, .putfield 64, 3), (151, .aload_n 0, 1), (152, .iconst 0, 1), (153, .putfield 67, 3), (156, .aload_n 0, 1), (157, .iconst 0, 1), (158, .putfield 70, 3), (161, .aload_n 0, 1), (162, .iconst 0, 1), (163, .putfield 73, 3), (166, .aload_n 0, 1), (167, .iconst 0, 1), (168, .putfield 76, 3), (171, .aload_n 0, 1), (172, .iconst 0, 1), (173, .putfield 79, 3), (176, .aload_n 0, 1), (177, .iconst 0, 1), (178, .putfield 82, 3), (181, .aload_n 0, 1), (182, .iconst 0, 1), (183, .putfield 85, 3), (186, .aload_n 0, 1), (187, .iconst 0, 1), (188, .putfield 89, 3), (191, .return_, 1)], 3, 1, 16)
def cm2 : Me := ("clamp", "(III)I", 3, 1, [(0, .iload_n 1, 1), (1, .iload_n 2, 1), (2, .if_icmp .ge 5, 3), (5, .iload_n 2, 1), (6, .ireturn, 1), (7, .iload_n 1, 1), (8, .iload_n 3, 1), (9, .if_icmp .le 5, 3), (12, .iload_n 3, 1), (13, .ireturn, 1), (14, .iload_n 1, 1), (15, .ireturn, 1)], 4, 0, 0)
def cm3 : Me := ("beginRule", "(I)I", 1, 1, [(0, .aload_n 0, 1), (1, .getfield 85, 3), (4, .ifCond .eq 5, 3), (7, .iconst (-1), 1), (8, .ireturn, 1), (9, .iload_n 1, 1), (10, .ifCond .lt 11, 3), (13, .iload_n 1, 1), (14, .aload_n 0, 1), (15, .getfield 57, 3), (18, .if_icmp .lt 5, 3), (21, .iconst (-1), 1), (22, .ireturn, 1), (23, .aload_n 0, 1), (24, .getfield 64, 3), (27, .bipush 16, 2), (29, .if_icmp .lt 5, 3), (32, .iconst (-1), 1), (33, .ireturn, 1), (34, .aload_n 0, 1), (35, .getfield 7, 3), (38, .aload_n 0, 1), (39, .getfield 64, 3), (42, .iload_n 1, 1), (43, .iastore, 1), (44, .aload_n 0, 1), (45, .getfield 13, 3), (48, .aload_n 0, 1), (49, .getfield 64, 3), (52, .iconst 0, 1), (53, .iastore, 1), (54, .aload_n 0, 1), (55, .getfield 64, 3), (58, .istore_n 2, 1), (59, .aload_n 0, 1), (60, .iload_n 2, 1), (61, .iconst 1, 1), (62, .iadd, 1), (63, .putfield 64, 3), (66, .iload_n 2, 1), (67, .ireturn, 1)], 3, 0, 0)
def cm4 : Me := ("addSymbol", "(I)Z", 1, 2, [(0, .aload_n 0, 1), (1, .getfield 85, 3), (4, .ifCond .ne 10, 3), (7, .aload_n 0, 1), (8, .getfield 64, 3), (11, .ifCond .ne 5, 3), (14, .iconst 0, 1), (15, .ireturn, 1), (16, .aload_n 0, 1), (17, .getfield 64, 3), (20, .iconst 1, 1), (21, .isub, 1), (22, .istore_n 2, 1), (23, .aload_n 0, 1), (24, .getfield 13, 3), (27, .iload_n 2, 1), (28, .iaload, 1), (29, .bipush 6, 2), (31, .if_icmp .lt 5, 3), (34, .iconst 0, 1), (35, .ireturn, 1), (36, .aload_n 0, 1), (37, .iload_n 1, 1), (38, .invokevirtual 92, 3), (41, .ifCond .ne 5, 3), (44, .iconst 0, 1), (45, .ireturn, 1), (46, .aload_n 0, 1), (47, .getfield 16, 3), (50, .iload_n 2, 1), (51, .bipush 6, 2), (53, .imul, 1), (54, .aload_n 0, 1), (55, .getfield 13, 3), (58, .iload_n 2, 1), (59, .iaload, 1), (60, .iadd, 1), (61, .iload_n 1, 1), (62, .iastore, 1), (63, .aload_n 0, 1), (64, .getfield 13, 3), (67, .iload_n 2, 1), (68, .aload_n 0, 1), (69, .getfield 13, 3), (72, .iload_n 2, 1), (73, .iaload, 1), (74, .iconst 1, 1), (75, .iadd, 1), (76, .iastore, 1), (77, .iconst 1, 1), (78, .ireturn, 1)], 3, 1, 13)
def cm5 : Me := ("validSymbol", "(I)Z", 1, 2, [(0, .iload_n 1, 1), (1, .iconst 1, 1), (2, .if_icmp .lt 13, 3), (5, .iload_n 1, 1), (6, .aload_n 0, 1), (7, .getfield 61, 3), (10, .if_icmp .gt 5, 3), (13, .iconst 1, 1), (14, .ireturn, 1), (15, .iload_n 1, 1), (16, .bipush 16, 2), (18, .if_icmp .lt 18, 3), (21, .iload_n 1, 1), (22, .bipush 16, 2), (24, .aload_n 0, 1), (25, .getfield 57, 3), (28, .iadd, 1), (29, .if_icmp .ge 7, 3), (32, .iconst 1, 1), (33, .goto 4, 3), (36, .iconst 0, 1), (37, .ireturn, 1)], 2, 0, 0)
def cm6 : Me := ("build", "()I", 0, 1, [(0, .aload_n 0, 1), (1, .getfield 85, 3), (4, .ifCond .eq 5, 3), (7, .iconst (-1), 1), (8, .ireturn, 1), (9, .aload_n 0, 1), (10, .iconst 1, 1), (11, .putfield 85, 3), (14, .iconst 0, 1), (15, .istore_n 1, 1), (16, .iload_n 1, 1), (17, .bipush 64, 2), (19, .if_icmp .ge 19, 3), (22, .aload_n 0, 1), (23, .invokevirtual 96, 3), (26, .ifCond .ne 6, 3), (29, .goto 9, 3), (32, .iinc 1 1, 3), (35, .goto (-19), 3), (38, .iconst 0, 1), (39, .istore_n 1, 1), (40, .iload_n 1, 1), (41, .sipush 256, 3), (44, .if_icmp .ge 19, 3), (47, .aload_n 0, 1), (48, .invokevirtual 100, 3), (51, .ifCond .ne 6, 3), (54, .goto 9, 3), (57, .iinc 1 1, 3), (60, .goto (-20), 3), (63, .aload_n 0, 1), (64, .getfield 26, 3), (67, .iconst 0, 1), (68, .iconst 1, 1), (69, .iastore, 1), (70, .iconst 0, 1), (71, .istore_n 1, 1), (72, .iload_n 1, 1), (73, .sipush 256, 3), (76, .if_icmp .ge 19, 3), (79, .aload_n 0, 1), (80, .invokevirtual 103, 3), (83, .ifCond .ne 6, 3), (86, .goto 9, 3), (89, .iinc 1 1, 3), (92, .goto (-20), 3), (95, .aload_n 0, 1), (96, .invokevirtual 106, 3), (99, .aload_n 0, 1), (100, .getfield 73, 3), (103, .ireturn, 1)], 2, 4, 63)
def cm7 : Me := ("seqNullable", "(II)Z", 2, 2, [(0, .aload_n 0, 1), (1, .getfield 13, 3), (4, .iload_n 1, 1), (5, .iaload, 1), (6, .istore_n 3, 1), (7, .iload_n 2, 1), (8, .istore 4, 2), (10, .iload 4, 2), (12, .iload_n 3, 1), (13, .if_icmp .ge 47, 3), (16, .aload_n 0, 1), (17, .getfield 16, 3), (20, .iload_n 1, 1), (21, .bipush 6, 2), (23, .imul, 1), (24, .iload 4, 2), (26, .iadd, 1), (27, .iaload, 1), (28, .istore 5, 2), (30, .iload 5, 2), (32, .bipush 16, 2), (34, .if_icmp .ge 5, 3), (37, .iconst 0, 1), (38, .ireturn, 1), (39, .aload_n 0, 1), (40, .getfield 19, 3), (43, .iload 5, 2), (45, .bipush 16, 2), (47, .isub, 1), (48, .baload, 1), (49, .ifCond .ne 5, 3), (52, .iconst 0, 1), (53, .ireturn, 1), (54, .iinc 4 1, 3), (57, .goto (-47), 3), (60, .iconst 1, 1), (61, .ireturn, 1)], 6, 0, 0)
def cm8 : Me := ("firstOfSeq", "(II)I", 2, 1, [(0, .aload_n 0, 1), (1, .getfield 13, 3), (4, .iload_n 1, 1), (5, .iaload, 1), (6, .istore_n 3, 1), (7, .iconst 0, 1), (8, .istore 4, 2), (10, .iload_n 2, 1), (11, .istore 5, 2), (13, .iload 5, 2), (15, .iload_n 3, 1), (16, .if_icmp .ge 69, 3), (19, .aload_n 0, 1), (20, .getfield 16, 3), (23, .iload_n 1, 1), (24, .bipush 6, 2), (26, .imul, 1), (27, .iload 5, 2), (29, .iadd, 1), (30, .iaload, 1), (31, .istore 6, 2), (33, .iload 6, 2), (35, .bipush 16, 2), (37, .if_icmp .ge 11, 3), (40, .iload 4, 2), (42, .iconst 1, 1), (43, .iload 6, 2), (45, .ishl, 1), (46, .ior, 1), (47, .ireturn, 1), (48, .iload 4, 2), (50, .aload_n 0, 1), (51, .getfield 23, 3), (54, .iload 6, 2), (56, .bipush 16, 2), (58, .isub, 1), (59, .iaload, 1), (60, .ior, 1), (61, .istore 4, 2), (63, .aload_n 0, 1), (64, .getfield 19, 3), (67, .iload 6, 2), (69, .bipush 16, 2), (71, .isub, 1), (72, .baload, 1), (73, .ifCond .ne 6, 3), (76, .iload 4, 2), (78, .ireturn, 1), (79, .iinc 5 1, 3), (82, .goto (-69), 3), (85, .iload 4, 2), (87, .ireturn, 1)], 7, 0, 0)
def cm9 : Me := ("nullablePass", "()Z", 0, 2, [(0, .iconst 0, 1), (1, .istore_n 1, 1), (2, .iconst 0, 1), (3, .istore_n 2, 1), (4, .iload_n 2, 1), (5, .aload_n 0, 1), (6, .getfield 64, 3), (9, .if_icmp .ge 43, 3), (12, .aload_n 0, 1), (13, .getfield 7, 3), (16, .iload_n 2, 1), (17, .iaload, 1), (18, .istore_n 3, 1), (19, .aload_n 0, 1), (20, .getfield 19, 3), (23, .iload_n 3, 1), (24, .baload, 1), (25, .ifCond .ne 21, 3), (28, .aload_n 0, 1), (29, .iload_n 2, 1), (30, .iconst 0, 1), (31, .invokevirtual 109, 3), (34, .ifCond .eq 12, 3), (37, .aload_n 0, 1), (38, .getfield 19, 3), (41, .iload_n 3, 1), (42, .iconst 1, 1), (43, .bastore, 1), (44, .iconst 1, 1), (45, .istore_n 1, 1), (46, .iinc 2 1, 3), (49, .goto (-45), 3), (52, .iload_n 1, 1), (53, .ireturn, 1)], 4, 1, 17)
def cm10 : Me := ("firstPass", "()Z", 0, 2, [(0, .iconst 0, 1), (1, .istore_n 1, 1), (2, .iconst 0, 1), (3, .istore_n 2, 1), (4, .iload_n 2, 1), (5, .aload_n 0, 1), (6, .getfield 64, 3), (9, .if_icmp .ge 59, 3), (12, .aload_n 0, 1), (13, .getfield 7, 3), (16, .iload_n 2, 1), (17, .iaload, 1), (18, .istore_n 3, 1), (19, .aload_n 0, 1), (20, .iload_n 2, 1), (21, .iconst 0, 1), (22, .invokevirtual 113, 3), (25, .istore 4, 2), (27, .aload_n 0, 1), (28, .getfield 23, 3), (31, .iload_n 3, 1), (32, .iaload, 1), (33, .iload 4, 2), (35, .ior, 1), (36, .aload_n 0, 1), (37, .getfield 23, 3), (40, .iload_n 3, 1), (41, .iaload, 1), (42, .if_icmp .eq 20, 3), (45, .aload_n 0, 1), (46, .getfield 23, 3), (49, .iload_n 3, 1), (50, .aload_n 0, 1), (51, .getfield 23, 3), (54, .iload_n 3, 1), (55, .iaload, 1), (56, .iload 4, 2), (58, .ior, 1), (59, .iastore, 1), (60, .iconst 1, 1), (61, .istore_n 1, 1), (62, .iinc 2 1, 3), (65, .goto (-61), 3), (68, .iload_n 1, 1), (69, .ireturn, 1)], 5, 1, 18)
def cm11 : Me := ("followPass", "()Z", 0, 2, [(0, .iconst 0, 1), (1, .istore_n 1, 1), (2, .iconst 0, 1), (3, .istore_n 2, 1), (4, .iload_n 2, 1), (5, .aload_n 0, 1), (6, .getfield 64, 3), (9, .if_icmp .ge 19, 3), (12, .aload_n 0, 1), (13, .iload_n 2, 1), (14, .invokevirtual 117, 3), (17, .ifCond .eq 5, 3), (20, .iconst 1, 1), (21, .istore_n 1, 1), (22, .iinc 2 1, 3), (25, .goto (-21), 3), (28, .iload_n 1, 1), (29, .ireturn, 1)], 3, 2, 38)
def cm12 : Me := ("followRule", "(I)Z", 1, 2, [(0, .aload_n 0, 1), (1, .getfield 7, 3), (4, .iload_n 1, 1), (5, .iaload, 1), (6, .istore_n 2, 1), (7, .aload_n 0, 1), (8, .getfield 13, 3), (11, .iload_n 1, 1), (12, .iaload, 1), (13, .istore_n 3, 1), (14, .iconst 0, 1), (15, .istore 4, 2), (17, .iconst 0, 1), (18, .istore 5, 2), (20, .iload 5, 2), (22, .iload_n 3, 1), (23, .if_icmp .ge 114, 3), (26, .aload_n 0, 1), (27, .getfield 16, 3), (30, .iload_n 1, 1), (31, .bipush 6, 2), (33, .imul, 1), (34, .iload 5, 2), (36, .iadd, 1), (37, .iaload, 1), (38, .istore 6, 2), (40, .iload 6, 2), (42, .bipush 16, 2), (44, .if_icmp .ge 6, 3), (47, .goto 84, 3), (50, .iload 6, 2), (52, .bipush 16, 2), (54, .isub, 1), (55, .istore 7, 2), (57, .aload_n 0, 1), (58, .iload_n 1, 1), (59, .iload 5, 2), (61, .iconst 1, 1), (62, .iadd, 1), (63, .invokevirtual 113, 3), (66, .istore 8, 2), (68, .aload_n 0, 1), (69, .iload_n 1, 1), (70, .iload 5, 2), (72, .iconst 1, 1), (73, .iadd, 1), (74, .invokevirtual 109, 3), (77, .ifCond .eq 14, 3), (80, .iload 8, 2), (82, .aload_n 0, 1), (83, .getfield 26, 3), (86, .iload_n 2, 1), (87, .iaload, 1), (88, .ior, 1), (89, .istore 8, 2), (91, .aload_n 0, 1), (92, .getfield 26, 3), (95, .iload 7, 2), (97, .iaload, 1), (98, .iload 8, 2), (100, .ior, 1), (101, .aload_n 0, 1), (102, .getfield 26, 3), (105, .iload 7, 2), (107, .iaload, 1), (108, .if_icmp .eq 23, 3), (111, .aload_n 0, 1), (112, .getfield 26, 3), (115, .iload 7, 2), (117, .aload_n 0, 1), (118, .getfield 26, 3), (121, .iload 7, 2), (123, .iaload, 1), (124, .iload 8, 2), (126, .ior, 1), (127, .iastore, 1), (128, .iconst 1, 1), (129, .istore 4, 2), (131, .iinc 5 1, 3), (134, .goto (-114), 3), (137, .iload 4, 2), (139, .ireturn, 1)], 9, 1, 18)
def cm13 : Me := ("predict", "(I)I", 1, 1, [(0, .aload_n 0, 1), (1, .iload_n 1, 1), (2, .iconst 0, 1), (3, .invokevirtual 113, 3), (6, .istore_n 2, 1), (7, .aload_n 0, 1), (8, .iload_n 1, 1), (9, .iconst 0, 1), (10, .invokevirtual 109, 3), (13, .ifCond .eq 17, 3), (16, .iload_n 2, 1), (17, .aload_n 0, 1), (18, .getfield 26, 3), (21, .aload_n 0, 1), (22, .getfield 7, 3), (25, .iload_n 1, 1), (26, .iaload, 1), (27, .iaload, 1), (28, .ior, 1), (29, .istore_n 2, 1), (30, .iload_n 2, 1), (31, .ireturn, 1)], 3, 1, 18)
def cm14 : Me := ("fillTable", "()V", 0, 0, [(0, .iconst 0, 1), (1, .istore_n 1, 1), (2, .iload_n 1, 1), (3, .sipush 128, 3), (6, .if_icmp .ge 16, 3), (9, .aload_n 0, 1), (10, .getfield 29, 3), (13, .iload_n 1, 1), (14, .iconst (-1), 1), (15, .iastore, 1), (16, .iinc 1 1, 3), (19, .goto (-17), 3), (22, .iconst 0, 1), (23, .istore_n 1, 1), (24, .iload_n 1, 1), (25, .aload_n 0, 1), (26, .getfield 64, 3), (29, .if_icmp .ge 14, 3), (32, .aload_n 0, 1), (33, .iload_n 1, 1), (34, .invokevirtual 120, 3), (37, .iinc 1 1, 3), (40, .goto (-16), 3), (43, .return_, 1)], 2, 3, 50)
def cm15 : Me := ("fillRule", "(I)V", 1, 0, [(0, .aload_n 0, 1), (1, .iload_n 1, 1), (2, .invokevirtual 124, 3), (5, .istore_n 2, 1), (6, .aload_n 0, 1), (7, .getfield 7, 3), (10, .iload_n 1, 1), (11, .iaload, 1), (12, .istore_n 3, 1), (13, .iconst 0, 1), (14, .istore 4, 2), (16, .iload 4, 2), (18, .aload_n 0, 1), (19, .getfield 61, 3), (22, .if_icmp .gt 101, 3), (25, .iload_n 2, 1), (26, .iload 4, 2), (28, .ishr, 1), (29, .iconst 1, 1), (30, .iand, 1), (31, .ifCond .ne 6, 3), (34, .goto 83, 3), (37, .iload_n 3, 1), (38, .bipush 16, 2), (40, .imul, 1), (41, .iload 4, 2), (43, .iadd, 1), (44, .istore 5, 2), (46, .aload_n 0, 1), (47, .getfield 29, 3), (50, .iload 5, 2), (52, .iaload, 1), (53, .istore 6, 2), (55, .iload 6, 2), (57, .ifCond .ge 14, 3), (60, .aload_n 0, 1), (61, .getfield 29, 3), (64, .iload 5, 2), (66, .iload_n 1, 1), (67, .iastore, 1), (68, .goto 49, 3), (71, .aload_n 0, 1), (72, .getfield 73, 3), (75, .sipush 256, 3), (78, .if_icmp .ge 39, 3), (81, .aload_n 0, 1), (82, .getfield 32, 3), (85, .aload_n 0, 1), (86, .getfield 73, 3), (89, .iload_n 3, 1), (90, .bipush 16, 2), (92, .ishl, 1), (93, .iload 4, 2), (95, .bipush 8, 2), (97, .ishl, 1), (98, .ior, 1), (99, .iload 6, 2), (101, .iconst 4, 1), (102, .ishl, 1), (103, .ior, 1), (104, .iload_n 1, 1), (105, .ior, 1), (106, .iastore, 1), (107, .aload_n 0, 1), (108, .dup, 1), (109, .getfield 73, 3), (112, .iconst 1, 1), (113, .iadd, 1), (114, .putfield 73, 3), (117, .iinc 4 1, 3), (120, .goto (-104), 3), (123, .return_, 1)], 7, 2, 32)
def cm21 : Me := ("token", "(I)Z", 1, 2, [(0, .aload_n 0, 1), (1, .getfield 89, 3), (4, .ifCond .ne 12, 3), (7, .aload_n 0, 1), (8, .getfield 67, 3), (11, .bipush 32, 2), (13, .if_icmp .lt 5, 3), (16, .iconst 0, 1), (17, .ireturn, 1), (18, .iload_n 1, 1), (19, .iconst 1, 1), (20, .if_icmp .lt 11, 3), (23, .iload_n 1, 1), (24, .aload_n 0, 1), (25, .getfield 61, 3), (28, .if_icmp .le 5, 3), (31, .iconst 0, 1), (32, .ireturn, 1), (33, .aload_n 0, 1), (34, .getfield 35, 3), (37, .aload_n 0, 1), (38, .getfield 67, 3), (41, .iload_n 1, 1), (42, .iastore, 1), (43, .aload_n 0, 1), (44, .dup, 1), (45, .getfield 67, 3), (48, .iconst 1, 1), (49, .iadd, 1), (50, .putfield 67, 3), (53, .iconst 1, 1), (54, .ireturn, 1)], 2, 0, 0)
def cm22 : Me := ("parse", "()I", 0, 1, [(0, .aload_n 0, 1), (1, .getfield 85, 3), (4, .ifCond .eq 10, 3), (7, .aload_n 0, 1), (8, .getfield 89, 3), (11, .ifCond .eq 5, 3), (14, .iconst (-1), 1), (15, .ireturn, 1), (16, .aload_n 0, 1), (17, .iconst 1, 1), (18, .putfield 89, 3), (21, .aload_n 0, 1), (22, .iconst 1, 1), (23, .putfield 70, 3), (26, .aload_n 0, 1), (27, .getfield 38, 3), (30, .iconst 0, 1), (31, .bipush 16, 2), (33, .iastore, 1), (34, .aload_n 0, 1), (35, .getfield 41, 3), (38, .iconst 0, 1), (39, .iconst (-1), 1), (40, .iastore, 1), (41, .aload_n 0, 1), (42, .getfield 44, 3), (45, .iconst 0, 1), (46, .iconst (-1), 1), (47, .iastore, 1), (48, .aload_n 0, 1), (49, .getfield 47, 3), (52, .iconst 0, 1), (53, .iconst 0, 1), (54, .iastore, 1), (55, .aload_n 0, 1), (56, .iconst 1, 1), (57, .putfield 79, 3), (60, .aload_n 0, 1), (61, .iconst 0, 1), (62, .putfield 82, 3), (65, .iconst 0, 1), (66, .istore_n 1, 1), (67, .iload_n 1, 1), (68, .sipush 2048, 3), (71, .if_icmp .ge 71, 3), (74, .aload_n 0, 1), (75, .getfield 79, 3), (78, .ifCond .gt 10, 3), (81, .aload_n 0, 1), (82, .invokevirtual 128, 3), (85, .goto 57, 3), (88, .aload_n 0, 1), (89, .getfield 47, 3), (92, .aload_n 0, 1), (93, .getfield 79, 3), (96, .iconst 1, 1), (97, .isub, 1), (98, .iaload, 1), (99, .istore_n 2, 1), (100, .aload_n 0, 1), (101, .getfield 38, 3), (104, .iload_n 2, 1), (105, .iaload, 1), (106, .istore_n 3, 1), (107, .iload_n 3, 1), (108, .bipush 16, 2), (110, .if_icmp .ge 12, 3), (113, .aload_n 0, 1), (114, .iload_n 2, 1), (115, .iload_n 3, 1), (116, .invokevirtual 131, 3), (119, .goto 17, 3), (122, .aload_n 0, 1), (123, .iload_n 2, 1), (124, .iload_n 3, 1), (125, .bipush 16, 2), (127, .isub, 1), (128, .invokevirtual 135, 3), (131, .ifCond .ne 5, 3), (134, .iconst 2, 1), (135, .ireturn, 1), (136, .iinc 1 1, 3), (139, .goto (-72), 3), (142, .aload_n 0, 1), (143, .getfield 76, 3), (146, .ifCond .ne 5, 3), (149, .iconst 0, 1), (150, .ireturn, 1), (151, .iconst 1, 1), (152, .ireturn, 1)], 4, 3, 48)
def cm23 : Me := ("lookahead", "()I", 0, 1, [(0, .aload_n 0, 1), (1, .getfield 82, 3), (4, .ifCond .lt 33, 3), (7, .aload_n 0, 1), (8, .getfield 82, 3), (11, .aload_n 0, 1), (12, .getfield 67, 3), (15, .if_icmp .ge 22, 3), (18, .aload_n 0, 1), (19, .getfield 82, 3), (22, .bipush 32, 2), (24, .if_icmp .ge 13, 3), (27, .aload_n 0, 1), (28, .getfield 35, 3), (31, .aload_n 0, 1), (32, .getfield 82, 3), (35, .iaload, 1), (36, .ireturn, 1), (37, .iconst 0, 1), (38, .ireturn, 1)], 1, 0, 0)
def cm24 : Me := ("record", "(III)V", 3, 0, [(0, .aload_n 0, 1), (1, .getfield 76, 3), (4, .ifCond .lt 32, 3), (7, .aload_n 0, 1), (8, .getfield 76, 3), (11, .bipush 64, 2), (13, .if_icmp .ge 23, 3), (16, .aload_n 0, 1), (17, .getfield 50, 3), (20, .aload_n 0, 1), (21, .getfield 76, 3), (24, .iload_n 1, 1), (25, .bipush 16, 2), (27, .ishl, 1), (28, .iload_n 2, 1), (29, .bipush 8, 2), (31, .ishl, 1), (32, .ior, 1), (33, .iload_n 3, 1), (34, .ior, 1), (35, .iastore, 1), (36, .aload_n 0, 1), (37, .dup, 1), (38, .getfield 76, 3), (41, .iconst 1, 1), (42, .iadd, 1), (43, .putfield 76, 3), (46, .return_, 1)], 4, 0, 0)
def cm25 : Me := ("skipRest", "()V", 0, 0, [(0, .iconst 0, 1), (1, .istore_n 1, 1), (2, .iload_n 1, 1), (3, .bipush 32, 2), (5, .if_icmp .ge 48, 3), (8, .aload_n 0, 1), (9, .getfield 82, 3), (12, .aload_n 0, 1), (13, .getfield 67, 3), (16, .if_icmp .ge 37, 3), (19, .aload_n 0, 1), (20, .iconst 2, 1), (21, .aload_n 0, 1), (22, .getfield 82, 3), (25, .aload_n 0, 1), (26, .getfield 35, 3), (29, .aload_n 0, 1), (30, .getfield 82, 3), (33, .iaload, 1), (34, .invokevirtual 138, 3), (37, .aload_n 0, 1), (38, .dup, 1), (39, .getfield 82, 3), (42, .iconst 1, 1), (43, .iadd, 1), (44, .putfield 82, 3), (47, .iinc 1 1, 3), (50, .goto (-48), 3), (53, .return_, 1)], 2, 1, 15)
def cm26 : Me := ("matchTerminal", "(II)V", 2, 0, [(0, .aload_n 0, 1), (1, .invokevirtual 142, 3), (4, .istore_n 3, 1), (5, .iload_n 2, 1), (6, .iload_n 3, 1), (7, .if_icmp .ne 26, 3), (10, .aload_n 0, 1), (11, .getfield 44, 3), (14, .iload_n 1, 1), (15, .aload_n 0, 1), (16, .getfield 82, 3), (19, .iastore, 1), (20, .aload_n 0, 1), (21, .dup, 1), (22, .getfield 82, 3), (25, .iconst 1, 1), (26, .iadd, 1), (27, .putfield 82, 3), (30, .goto 13, 3), (33, .aload_n 0, 1), (34, .iconst 1, 1), (35, .aload_n 0, 1), (36, .getfield 82, 3), (39, .iload_n 2, 1), (40, .invokevirtual 138, 3), (43, .aload_n 0, 1), (44, .dup, 1), (45, .getfield 79, 3), (48, .iconst 1, 1), (49, .isub, 1), (50, .putfield 79, 3), (53, .return_, 1)], 4, 1, 15)
def cm27 : Me := ("expandOrRecover", "(II)Z", 2, 2, [(0, .aload_n 0, 1), (1, .invokevirtual 142, 3), (4, .istore_n 3, 1), (5, .aload_n 0, 1), (6, .getfield 29, 3), (9, .iload_n 2, 1), (10, .bipush 16, 2), (12, .imul, 1), (13, .iload_n 3, 1), (14, .iadd, 1), (15, .iaload, 1), (16, .istore 4, 2), (18, .iload 4, 2), (20, .ifCond .lt 11, 3), (23, .aload_n 0, 1), (24, .iload_n 1, 1), (25, .iload 4, 2), (27, .invokevirtual 146, 3), (30, .ireturn, 1), (31, .aload_n 0, 1), (32, .iload_n 2, 1), (33, .invokevirtual 149, 3), (36, .iconst 1, 1), (37, .ireturn, 1)], 5, 2, 32)
def cm28 : Me := ("expand", "(II)Z", 2, 2, [(0, .aload_n 0, 1), (1, .getfield 13, 3), (4, .iload_n 2, 1), (5, .iaload, 1), (6, .istore_n 3, 1), (7, .aload_n 0, 1), (8, .getfield 70, 3), (11, .iload_n 3, 1), (12, .iadd, 1), (13, .sipush 256, 3), (16, .if_icmp .le 5, 3), (19, .iconst 0, 1), (20, .ireturn, 1), (21, .aload_n 0, 1), (22, .getfield 44, 3), (25, .iload_n 1, 1), (26, .iload_n 2, 1), (27, .iastore, 1), (28, .aload_n 0, 1), (29, .dup, 1), (30, .getfield 79, 3), (33, .iconst 1, 1), (34, .isub, 1), (35, .putfield 79, 3), (38, .aload_n 0, 1), (39, .getfield 70, 3), (42, .istore 4, 2), (44, .iconst 0, 1), (45, .istore 5, 2), (47, .iload 5, 2), (49, .iload_n 3, 1), (50, .if_icmp .ge 51, 3), (53, .iload 4, 2), (55, .iload 5, 2), (57, .iadd, 1), (58, .istore 6, 2), (60, .aload_n 0, 1), (61, .getfield 38, 3), (64, .iload 6, 2), (66, .aload_n 0, 1), (67, .getfield 16, 3), (70, .iload_n 2, 1), (71, .bipush 6, 2), (73, .imul, 1), (74, .iload 5, 2), (76, .iadd, 1), (77, .iaload, 1), (78, .iastore, 1), (79, .aload_n 0, 1), (80, .getfield 41, 3), (83, .iload 6, 2), (85, .iload_n 1, 1), (86, .iastore, 1), (87, .aload_n 0, 1), (88, .getfield 44, 3), (91, .iload 6, 2), (93, .iconst (-1), 1), (94, .iastore, 1), (95, .iinc 5 1, 3), (98, .goto (-51), 3), (101, .aload_n 0, 1), (102, .iload 4, 2), (104, .iload_n 3, 1), (105, .iadd, 1), (106, .putfield 70, 3), (109, .iload_n 3, 1), (110, .iconst 1, 1), (111, .isub, 1), (112, .istore 5, 2), (114, .iload 5, 2), (116, .ifCond .lt 18, 3), (119, .aload_n 0, 1), (120, .iload 4, 2), (122, .iload 5, 2), (124, .iadd, 1), (125, .invokevirtual 152, 3), (128, .iinc 5 (-1), 3), (131, .goto (-17), 3), (134, .iconst 1, 1), (135, .ireturn, 1)], 7, 1, 13)
def cm29 : Me := ("push", "(I)V", 1, 0, [(0, .aload_n 0, 1), (1, .getfield 79, 3), (4, .ifCond .lt 33, 3), (7, .aload_n 0, 1), (8, .getfield 79, 3), (11, .sipush 256, 3), (14, .if_icmp .ge 23, 3), (17, .aload_n 0, 1), (18, .getfield 47, 3), (21, .aload_n 0, 1), (22, .getfield 79, 3), (25, .iload_n 1, 1), (26, .iastore, 1), (27, .aload_n 0, 1), (28, .dup, 1), (29, .getfield 79, 3), (32, .iconst 1, 1), (33, .iadd, 1), (34, .putfield 79, 3), (37, .return_, 1)], 2, 0, 0)
def cm30 : Me := ("syncSet", "(I)I", 1, 1, [(0, .aload_n 0, 1), (1, .getfield 23, 3), (4, .iload_n 1, 1), (5, .iaload, 1), (6, .aload_n 0, 1), (7, .getfield 26, 3), (10, .iload_n 1, 1), (11, .iaload, 1), (12, .ior, 1), (13, .iconst 1, 1), (14, .ior, 1), (15, .istore_n 2, 1), (16, .iconst 0, 1), (17, .istore_n 3, 1), (18, .iload_n 3, 1), (19, .aload_n 0, 1), (20, .getfield 79, 3), (23, .iconst 1, 1), (24, .isub, 1), (25, .if_icmp .ge 59, 3), (28, .iload_n 3, 1), (29, .sipush 256, 3), (32, .if_icmp .ge 52, 3), (35, .aload_n 0, 1), (36, .getfield 38, 3), (39, .aload_n 0, 1), (40, .getfield 47, 3), (43, .iload_n 3, 1), (44, .iaload, 1), (45, .iaload, 1), (46, .istore 4, 2), (48, .iload 4, 2), (50, .bipush 16, 2), (52, .if_icmp .ge 13, 3), (55, .iload_n 2, 1), (56, .iconst 1, 1), (57, .iload 4, 2), (59, .ishl, 1), (60, .ior, 1), (61, .istore_n 2, 1), (62, .goto 16, 3), (65, .iload_n 2, 1), (66, .aload_n 0, 1), (67, .getfield 23, 3), (70, .iload 4, 2), (72, .bipush 16, 2), (74, .isub, 1), (75, .iaload, 1), (76, .ior, 1), (77, .istore_n 2, 1), (78, .iinc 3 1, 3), (81, .goto (-63), 3), (84, .iload_n 2, 1), (85, .ireturn, 1)], 5, 0, 0)
def cm31 : Me := ("recover", "(I)V", 1, 0, [(0, .aload_n 0, 1), (1, .iload_n 1, 1), (2, .invokevirtual 155, 3), (5, .istore_n 2, 1), (6, .iconst 0, 1), (7, .istore_n 3, 1), (8, .iload_n 3, 1), (9, .bipush 32, 2), (11, .if_icmp .gt 48, 3), (14, .aload_n 0, 1), (15, .invokevirtual 142, 3), (18, .istore 4, 2), (20, .iload_n 2, 1), (21, .iload 4, 2), (23, .ishr, 1), (24, .iconst 1, 1), (25, .iand, 1), (26, .ifCond .eq 6, 3), (29, .goto 30, 3), (32, .aload_n 0, 1), (33, .iconst 2, 1), (34, .aload_n 0, 1), (35, .getfield 82, 3), (38, .iload 4, 2), (40, .invokevirtual 138, 3), (43, .aload_n 0, 1), (44, .dup, 1), (45, .getfield 82, 3), (48, .iconst 1, 1), (49, .iadd, 1), (50, .putfield 82, 3), (53, .iinc 3 1, 3), (56, .goto (-48), 3), (59, .aload_n 0, 1), (60, .invokevirtual 142, 3), (63, .istore_n 3, 1), (64, .aload_n 0, 1), (65, .getfield 29, 3), (68, .iload_n 1, 1), (69, .bipush 16, 2), (71, .imul, 1), (72, .iload_n 3, 1), (73, .iadd, 1), (74, .iaload, 1), (75, .ifCond .lt 4, 3), (78, .return_, 1), (79, .aload_n 0, 1), (80, .iconst 3, 1), (81, .aload_n 0, 1), (82, .getfield 82, 3), (85, .bipush 16, 2), (87, .iload_n 1, 1), (88, .iadd, 1), (89, .invokevirtual 138, 3), (92, .aload_n 0, 1), (93, .dup, 1), (94, .getfield 79, 3), (97, .iconst 1, 1), (98, .isub, 1), (99, .putfield 79, 3), (102, .return_, 1)], 5, 1, 16)
def cm32 : Me := ("errorCount", "()I", 0, 1, [(0, .aload_n 0, 1), (1, .getfield 76, 3), (4, .ireturn, 1)], 1, 0, 0)
def cm33 : Me := ("error", "(I)I", 1, 1, [(0, .aload_n 0, 1), (1, .getfield 76, 3), (4, .istore_n 2, 1), (5, .iload_n 2, 1), (6, .bipush 64, 2), (8, .if_icmp .le 6, 3), (11, .bipush 64, 2), (13, .istore_n 2, 1), (14, .iload_n 1, 1), (15, .ifCond .lt 8, 3), (18, .iload_n 1, 1), (19, .iload_n 2, 1), (20, .if_icmp .lt 5, 3), (23, .iconst (-1), 1), (24, .ireturn, 1), (25, .aload_n 0, 1), (26, .getfield 50, 3), (29, .iload_n 1, 1), (30, .iaload, 1), (31, .ireturn, 1)], 3, 0, 0)
def cm34 : Me := ("nodeCount", "()I", 0, 1, [(0, .aload_n 0, 1), (1, .getfield 70, 3), (4, .ireturn, 1)], 1, 0, 0)
def cm35 : Me := ("nodeSymbol", "(I)I", 1, 1, [(0, .iload_n 1, 1), (1, .ifCond .lt 18, 3), (4, .iload_n 1, 1), (5, .aload_n 0, 1), (6, .getfield 70, 3), (9, .if_icmp .ge 10, 3), (12, .iload_n 1, 1), (13, .sipush 256, 3), (16, .if_icmp .lt 5, 3), (19, .iconst (-1), 1), (20, .ireturn, 1), (21, .aload_n 0, 1), (22, .getfield 38, 3), (25, .iload_n 1, 1), (26, .iaload, 1), (27, .ireturn, 1)], 2, 0, 0)
def cm36 : Me := ("nodeParent", "(I)I", 1, 1, [(0, .iload_n 1, 1), (1, .ifCond .lt 18, 3), (4, .iload_n 1, 1), (5, .aload_n 0, 1), (6, .getfield 70, 3), (9, .if_icmp .ge 10, 3), (12, .iload_n 1, 1), (13, .sipush 256, 3), (16, .if_icmp .lt 6, 3), (19, .bipush (-2), 2), (21, .ireturn, 1), (22, .aload_n 0, 1), (23, .getfield 41, 3), (26, .iload_n 1, 1), (27, .iaload, 1), (28, .ireturn, 1)], 2, 0, 0)
def cm37 : Me := ("nodeDetail", "(I)I", 1, 1, [(0, .iload_n 1, 1), (1, .ifCond .lt 18, 3), (4, .iload_n 1, 1), (5, .aload_n 0, 1), (6, .getfield 70, 3), (9, .if_icmp .ge 10, 3), (12, .iload_n 1, 1), (13, .sipush 256, 3), (16, .if_icmp .lt 6, 3), (19, .bipush (-2), 2), (21, .ireturn, 1), (22, .aload_n 0, 1), (23, .getfield 44, 3), (26, .iload_n 1, 1), (27, .iaload, 1), (28, .ireturn, 1)], 2, 0, 0)
def PP : Cl := ("Ll1RecoverGen", [(15, ("nNt", "I", 0, false)), (16, ("nT", "I", 0, false)), (17, ("ruleCount", "I", 0, false)), (18, ("tokenCount", "I", 0, false)), (19, ("nodeCount", "I", 0, false)), (20, ("conflictCount", "I", 0, false)), (21, ("errorCount", "I", 0, false)), (22, ("sp", "I", 0, false)), (23, ("pos", "I", 0, false)), (24, ("built", "Z", 1, false)), (25, ("parsed", "Z", 1, false)), (26, ("ruleLhs", "[I", 3, false)), (27, ("ruleLen", "[I", 4, false)), (28, ("ruleRhs", "[I", 5, false)), (29, ("nullableNt", "[Z", 6, false)), (30, ("firstNt", "[I", 7, false)), (31, ("followNt", "[I", 8, false)), (32, ("table", "[I", 9, false)), (33, ("conflicts", "[I", 10, false)), (34, ("tokens", "[I", 11, false)), (35, ("nodeSym", "[I", 12, false)), (36, ("nodePar", "[I", 13, false)), (37, ("nodeDet", "[I", 14, false)), (38, ("stack", "[I", 15, false)), (39, ("errors", "[I", 16, false))], [(0, 16), (0, 16), (0, 96), (1, 8), (0, 8), (0, 8), (0, 128), (0, 256), (0, 32), (0, 256), (0, 256), (0, 256), (0, 256), (0, 64)], [(7, 26), (13, 27), (16, 28), (19, 29), (23, 30), (26, 31), (29, 32), (32, 33), (35, 34), (38, 35), (41, 36), (44, 37), (47, 38), (50, 39), (57, 15), (61, 16), (64, 17), (67, 18), (70, 19), (73, 20), (76, 21), (79, 22), (82, 23), (85, 24), (89, 25)], [(53, 2), (92, 5), (96, 9), (100, 10), (103, 11), (106, 14), (109, 7), (113, 8), (117, 12), (120, 15), (124, 13), (128, 25), (131, 26), (135, 27), (138, 24), (142, 23), (146, 28), (149, 31), (152, 29), (155, 30)], [], [(0, cm0), (2, cm2), (3, cm3), (4, cm4), (5, cm5), (6, cm6), (7, cm7), (8, cm8), (9, cm9), (10, cm10), (11, cm11), (12, cm12), (13, cm13), (14, cm14), (15, cm15), (21, cm21), (22, cm22), (23, cm23), (24, cm24), (25, cm25), (26, cm26), (27, cm27), (28, cm28), (29, cm29), (30, cm30), (31, cm31), (32, cm32), (33, cm33), (34, cm34), (35, cm35), (36, cm36), (37, cm37)], 1)
def lm0 : Me := ("law", "([I)Z", 1, 2, [(0, .new 21, 3), (3, .dup, 1), (4, .aload_n 0, 1), (5, .invokestatic 13, 3), (8, .aload_n 0, 1), (9, .invokestatic 18, 3), (12, .invokespecial 23, 3), (15, .astore_n 1, 1), (16, .aload_n 0, 1), (17, .invokestatic 26, 3), (20, .istore_n 2, 1), (21, .iconst 0, 1), (22, .istore_n 3, 1), (23, .iload_n 3, 1), (24, .iload_n 2, 1), (25, .if_icmp .ge 54, 3), (28, .aload_n 1, 1), (29, .aload_n 0, 1), (30, .iload_n 3, 1), (31, .invokestatic 29, 3), (34, .invokevirtual 32, 3), (37, .pop, 1), (38, .aload_n 0, 1), (39, .iload_n 3, 1), (40, .invokestatic 36, 3), (43, .istore 4, 2), (45, .iconst 0, 1), (46, .istore 5, 2), (48, .iload 5, 2), (50, .iload 4, 2), (52, .if_icmp .ge 21, 3), (55, .aload_n 1, 1), (56, .aload_n 0, 1), (57, .iload_n 3, 1), (58, .iload 5, 2), (60, .invokestatic 39, 3), (63, .invokevirtual 43, 3), (66, .pop, 1), (67, .iinc 5 1, 3), (70, .goto (-22), 3), (73, .iinc 3 1, 3), (76, .goto (-53), 3), (79, .aload_n 0, 1), (80, .bipush 67, 2), (82, .invokestatic 7, 3), (85, .bipush 31, 2), (87, .iand, 1), (88, .istore_n 3, 1), (89, .iconst 0, 1), (90, .istore 4, 2), (92, .iconst 0, 1), (93, .istore 5, 2), (95, .iload 5, 2), (97, .iload_n 3, 1), (98, .if_icmp .ge 25, 3), (101, .aload_n 1, 1), (102, .aload_n 0, 1), (103, .iload 5, 2), (105, .invokestatic 47, 3), (108, .invokevirtual 50, 3), (111, .ifCond .eq 6, 3), (114, .iinc 4 1, 3), (117, .iinc 5 1, 3), (120, .goto (-25), 3), (123, .aload_n 1, 1), (124, .invokevirtual 53, 3), (127, .istore 5, 2), (129, .aload_n 1, 1), (130, .invokevirtual 57, 3), (133, .istore 6, 2), (135, .iload 6, 2), (137, .ifCond .eq 11, 3), (140, .iload 6, 2), (142, .iconst 1, 1), (143, .if_icmp .eq 5, 3), (146, .iconst 1, 1), (147, .ireturn, 1), (148, .aload_n 1, 1), (149, .invokevirtual 60, 3), (152, .istore 7, 2), (154, .aload_n 1, 1), (155, .invokevirtual 63, 3), (158, .istore 8, 2), (160, .iload 7, 2), (162, .sipush 256, 3), (165, .if_icmp .le 5, 3), (168, .iconst 0, 1), (169, .ireturn, 1), (170, .iload 8, 2), (172, .bipush 32, 2), (174, .iload 7, 2), (176, .iadd, 1), (177, .if_icmp .le 5, 3), (180, .iconst 0, 1), (181, .ireturn, 1), (182, .iload 5, 2), (184, .ifCond .ne 12, 3), (187, .iload 6, 2), (189, .ifCond .ne 7, 3), (192, .iconst 1, 1), (193, .goto 4, 3), (196, .iconst 0, 1), (197, .istore 9, 2), (199, .iconst 0, 1), (200, .istore 10, 2), (202, .iload 10, 2), (204, .iload 7, 2), (206, .if_icmp .ge 170, 3), (209, .aload_n 1, 1), (210, .iload 10, 2), (212, .invokevirtual 66, 3), (215, .istore 11, 2), (217, .aload_n 1, 1), (218, .iload 10, 2), (220, .invokevirtual 69, 3), (223, .istore 12, 2), (225, .iload 9, 2), (227, .ifCond .eq 11, 3), (230, .iload 12, 2), (232, .iconst (-1), 1), (233, .if_icmp .ne 5, 3), (236, .iconst 0, 1), (237, .ireturn, 1), (238, .iload 11, 2), (240, .bipush 16, 2), (242, .if_icmp .lt 12, 3), (245, .iload 12, 2), (247, .ifCond .lt 7, 3), (250, .iconst 1, 1), (251, .goto 4, 3), (254, .iconst 0, 1), (255, .istore 13, 2), (257, .iload 13, 2), (259, .ifCond .eq 25, 3), (262, .iload 12, 2), (264, .iload_n 2, 1), (265, .if_icmp .ge 17, 3), (268, .iload 11, 2), (270, .bipush 16, 2), (272, .aload_n 0, 1), (273, .iload 12, 2), (275, .invokestatic 29, 3), (278, .iadd, 1), (279, .if_icmp .eq 5, 3), (282, .iconst 0, 1), (283, .ireturn, 1), (284, .iconst 0, 1), (285, .istore 14, 2), (287, .iconst 0, 1), (288, .istore 15, 2), (290, .iload 15, 2), (292, .iload 7, 2), (294, .if_icmp .ge 58, 3), (297, .aload_n 1, 1), (298, .iload 15, 2), (300, .invokevirtual 72, 3), (303, .iload 10, 2), (305, .if_icmp .ne 41, 3), (308, .iload 13, 2), (310, .ifCond .eq 31, 3), (313, .iload 14, 2), (315, .aload_n 0, 1), (316, .iload 12, 2), (318, .invokestatic 36, 3), (321, .if_icmp .ge 20, 3), (324, .aload_n 1, 1), (325, .iload 15, 2), (327, .invokevirtual 66, 3), (330, .aload_n 0, 1), (331, .iload 12, 2), (333, .iload 14, 2), (335, .invokestatic 39, 3), (338, .if_icmp .eq 5, 3), (341, .iconst 0, 1), (342, .ireturn, 1), (343, .iinc 14 1, 3), (346, .iinc 15 1, 3), (349, .goto (-59), 3), (352, .iload 13, 2), (354, .ifCond .eq 16, 3), (357, .iload 14, 2), (359, .aload_n 0, 1), (360, .iload 12, 2), (362, .invokestatic 36, 3), (365, .if_icmp .eq 5, 3), (368, .iconst 0, 1), (369, .ireturn, 1), (370, .iinc 10 1, 3), (373, .goto (-171), 3), (376, .iconst (-1), 1), (377, .istore 10, 2), (379, .iconst 0, 1), (380, .istore 11, 2), (382, .iconst 0, 1), (383, .istore 12, 2), (385, .iconst 0, 1), (386, .istore 13, 2), (388, .iload 12, 2), (390, .ifCond .lt 233, 3), (393, .iload 12, 2), (395, .iload 7, 2), (397, .if_icmp .ge 226, 3), (400, .iload 13, 2), (402, .iload 7, 2), (404, .if_icmp .gt 219, 3), (407, .iinc 13 1, 3), (410, .aload_n 1, 1), (411, .iload 12, 2), (413, .invokevirtual 66, 3), (416, .istore 14, 2), (418, .aload_n 1, 1), (419, .iload 12, 2), (421, .invokevirtual 69, 3), (424, .istore 15, 2), (426, .iload 14, 2), (428, .iconst 1, 1), (429, .if_icmp .lt 63, 3), (432, .iload 14, 2), (434, .bipush 16, 2), (436, .if_icmp .ge 56, 3), (439, .iload 15, 2), (441, .ifCond .lt 51, 3), (444, .iload 15, 2), (446, .iload 4, 2), (448, .if_icmp .ge 21, 3), (451, .iload 14, 2), (453, .aload_n 0, 1), (454, .iload 15, 2), (456, .invokestatic 47, 3), (459, .if_icmp .ne 10, 3), (462, .iload 15, 2), (464, .iload 10, 2), (466, .if_icmp .gt 5, 3), (469, .iconst 0, 1), (470, .ireturn, 1), (471, .iload 9, 2), (473, .ifCond .eq 12, 3), (476, .iload 15, 2), (478, .iload 11, 2), (480, .if_icmp .eq 5, 3), (483, .iconst 0, 1), (484, .ireturn, 1), (485, .iload 15, 2), (487, .istore 10, 2), (489, .iinc 11 1, 3), (492, .iconst (-1), 1), (493, .istore 16, 2), (495, .iconst 0, 1), (496, .istore 17, 2), (498, .iload 17, 2), (500, .iload 7, 2), (502, .if_icmp .ge 27, 3), (505, .aload_n 1, 1), (506, .iload 17, 2), (508, .invokevirtual 72, 3), (511, .iload 12, 2), (513, .if_icmp .ne 10, 3), (516, .iload 17, 2), (518, .istore 16, 2), (520, .goto 9, 3), (523, .iinc 17 1, 3), (526, .goto (-28), 3), (529, .iload 12, 2), (531, .istore 17, 2), (533, .iconst 0, 1), (534, .istore 18, 2), (536, .iload 16, 2), (538, .ifCond .ge 78, 3), (541, .iload 17, 2), (543, .ifCond .le 73, 3), (546, .iload 18, 2), (548, .iload 7, 2), (550, .if_icmp .gt 66, 3), (553, .iinc 18 1, 3), (556, .aload_n 1, 1), (557, .iload 17, 2), (559, .invokevirtual 72, 3), (562, .istore 19, 2), (564, .iload 19, 2), (566, .ifCond .ge 6, 3), (569, .goto 47, 3), (572, .iload 17, 2), (574, .iconst 1, 1), (575, .iadd, 1), (576, .istore 20, 2), (578, .iload 20, 2), (580, .iload 7, 2), (582, .if_icmp .ge 27, 3), (585, .aload_n 1, 1), (586, .iload 20, 2), (588, .invokevirtual 72, 3), (591, .iload 19, 2), (593, .if_icmp .ne 10, 3), (596, .iload 20, 2), (598, .istore 16, 2), (600, .goto 9, 3), (603, .iinc 20 1, 3), (606, .goto (-28), 3), (609, .iload 19, 2), (611, .istore 17, 2), (613, .goto (-77), 3), (616, .iload 16, 2), (618, .istore 12, 2), (620, .goto (-232), 3), (623, .iload 9, 2), (625, .ifCond .eq 12, 3), (628, .iload 11, 2), (630, .iload 4, 2), (632, .if_icmp .eq 5, 3), (635, .iconst 0, 1), (636, .ireturn, 1), (637, .iload 8, 2), (639, .bipush 64, 2), (641, .if_icmp .gt 148, 3), (644, .iconst 0, 1), (645, .istore 14, 2), (647, .iload 14, 2), (649, .iload 4, 2), (651, .if_icmp .ge 138, 3), (654, .iconst 0, 1), (655, .istore 15, 2), (657, .iconst 0, 1), (658, .istore 16, 2), (660, .iload 16, 2), (662, .iload 7, 2), (664, .if_icmp .ge 44, 3), (667, .aload_n 1, 1), (668, .iload 16, 2), (670, .invokevirtual 66, 3), (673, .istore 17, 2), (675, .iload 17, 2), (677, .iconst 1, 1), (678, .if_icmp .lt 24, 3), (681, .iload 17, 2), (683, .bipush 16, 2), (685, .if_icmp .ge 17, 3), (688, .aload_n 1, 1), (689, .iload 16, 2), (691, .invokevirtual 69, 3), (694, .iload 14, 2), (696, .if_icmp .ne 6, 3), (699, .iinc 15 1, 3), (702, .iinc 16 1, 3), (705, .goto (-45), 3), (708, .iconst 0, 1), (709, .istore 16, 2), (711, .iload 16, 2), (713, .iload 8, 2), (715, .if_icmp .ge 60, 3), (718, .aload_n 1, 1), (719, .iload 16, 2), (721, .invokevirtual 75, 3), (724, .istore 17, 2), (726, .iload 17, 2), (728, .bipush 16, 2), (730, .iushr, 1), (731, .iconst 2, 1), (732, .if_icmp .ne 37, 3), (735, .iload 17, 2), (737, .bipush 8, 2), (739, .iushr, 1), (740, .sipush 255, 3), (743, .iand, 1), (744, .iload 14, 2), (746, .if_icmp .ne 23, 3), (749, .iload 17, 2), (751, .sipush 255, 3), (754, .iand, 1), (755, .aload_n 0, 1), (756, .iload 14, 2), (758, .invokestatic 47, 3), (761, .if_icmp .eq 5, 3), (764, .iconst 0, 1), (765, .ireturn, 1), (766, .iinc 15 1, 3), (769, .iinc 16 1, 3), (772, .goto (-61), 3), (775, .iload 15, 2), (777, .iconst 1, 1), (778, .if_icmp .eq 5, 3), (781, .iconst 0, 1), (782, .ireturn, 1), (783, .iinc 14 1, 3), (786, .goto (-139), 3), (789, .iconst 1, 1), (790, .ireturn, 1)], 21, 8, 192)
def lm2 : Me := ("cell", "([II)I", 2, 1, [(0, .iload_n 1, 1), (1, .aload_n 0, 1), (2, .arraylength, 1), (3, .if_icmp .ge 9, 3), (6, .aload_n 0, 1), (7, .iload_n 1, 1), (8, .iaload, 1), (9, .goto 4, 3), (12, .iconst 0, 1), (13, .ireturn, 1)], 2, 0, 0)
def lm3 : Me := ("nN", "([I)I", 1, 1, [(0, .iconst 1, 1), (1, .aload_n 0, 1), (2, .iconst 0, 1), (3, .invokestatic 7, 3), (6, .iconst 3, 1), (7, .iand, 1), (8, .iadd, 1), (9, .ireturn, 1)], 1, 1, 14)
def lm4 : Me := ("nT", "([I)I", 1, 1, [(0, .iconst 1, 1), (1, .aload_n 0, 1), (2, .iconst 1, 1), (3, .invokestatic 7, 3), (6, .iconst 3, 1), (7, .iand, 1), (8, .iadd, 1), (9, .ireturn, 1)], 1, 1, 14)
def lm5 : Me := ("nR", "([I)I", 1, 1, [(0, .iconst 1, 1), (1, .aload_n 0, 1), (2, .iconst 2, 1), (3, .invokestatic 7, 3), (6, .bipush 7, 2), (8, .iand, 1), (9, .iadd, 1), (10, .ireturn, 1)], 1, 1, 14)
def lm6 : Me := ("lhs", "([II)I", 2, 1, [(0, .aload_n 0, 1), (1, .iconst 3, 1), (2, .bipush 8, 2), (4, .iload_n 1, 1), (5, .imul, 1), (6, .iadd, 1), (7, .invokestatic 7, 3), (10, .sipush 255, 3), (13, .iand, 1), (14, .aload_n 0, 1), (15, .invokestatic 13, 3), (18, .irem, 1), (19, .ireturn, 1)], 2, 2, 27)
def lm7 : Me := ("len", "([II)I", 2, 1, [(0, .aload_n 0, 1), (1, .iconst 4, 1), (2, .bipush 8, 2), (4, .iload_n 1, 1), (5, .imul, 1), (6, .iadd, 1), (7, .invokestatic 7, 3), (10, .sipush 255, 3), (13, .iand, 1), (14, .iconst 5, 1), (15, .irem, 1), (16, .ireturn, 1)], 2, 1, 13)
def lm8 : Me := ("sym", "([III)I", 3, 1, [(0, .aload_n 0, 1), (1, .iconst 5, 1), (2, .bipush 8, 2), (4, .iload_n 1, 1), (5, .imul, 1), (6, .iadd, 1), (7, .iload_n 2, 1), (8, .iadd, 1), (9, .invokestatic 7, 3), (12, .ldc 17, 2), (14, .iand, 1), (15, .istore_n 3, 1), (16, .iload_n 3, 1), (17, .iconst 1, 1), (18, .iand, 1), (19, .ifCond .ne 14, 3), (22, .iconst 1, 1), (23, .iload_n 3, 1), (24, .iconst 1, 1), (25, .iushr, 1), (26, .aload_n 0, 1), (27, .invokestatic 18, 3), (30, .irem, 1), (31, .iadd, 1), (32, .ireturn, 1), (33, .bipush 16, 2), (35, .iload_n 3, 1), (36, .iconst 1, 1), (37, .iushr, 1), (38, .aload_n 0, 1), (39, .invokestatic 13, 3), (42, .irem, 1), (43, .iadd, 1), (44, .ireturn, 1)], 4, 2, 28)
def lm9 : Me := ("tok", "([II)I", 2, 1, [(0, .iconst 1, 1), (1, .aload_n 0, 1), (2, .bipush 68, 2), (4, .iload_n 1, 1), (5, .iadd, 1), (6, .invokestatic 7, 3), (9, .sipush 255, 3), (12, .iand, 1), (13, .aload_n 0, 1), (14, .invokestatic 18, 3), (17, .irem, 1), (18, .iadd, 1), (19, .ireturn, 1)], 2, 2, 28)
def QQ : Lw := ("Ll1RecoverGenOwnLaw", [(7, 2), (13, 3), (18, 4), (26, 5), (29, 6), (36, 7), (39, 8), (47, 9)], [(32, 3), (43, 4), (50, 21), (53, 6), (57, 22), (60, 34), (63, 32), (66, 35), (69, 37), (72, 36), (75, 33)], 23, 21, 25, [(17, .int (65535 : Int32))], [(0, lm0), (2, lm2), (3, lm3), (4, lm4), (5, lm5), (6, lm6), (7, lm7), (8, lm8), (9, lm9)], 40, 3456)
set_option maxRecDepth 100000
set_option maxHeartbeats 1000000
theorem dk_l3 : chk method_3_code lm3.cd = true := by decide +kernel
theorem dk_l2 : chk method_2_code lm2.cd = true := by decide +kernel
theorem dk_l4 : chk method_4_code lm4.cd = true := by decide +kernel
theorem dk_c0 : chk prog_1_method_1_code cm0.cd = true := by decide +kernel
theorem dk_c2 : chk prog_1_method_2_code cm2.cd = true := by decide +kernel
theorem dk_l5 : chk method_5_code lm5.cd = true := by decide +kernel
theorem dk_l6 : chk method_6_code lm6.cd = true := by decide +kernel
theorem dk_c3 : chk prog_1_method_3_code cm3.cd = true := by decide +kernel
theorem dk_l7 : chk method_7_code lm7.cd = true := by decide +kernel
theorem dk_l8 : chk method_8_code lm8.cd = true := by decide +kernel
theorem dk_c4 : chk prog_1_method_4_code cm4.cd = true := by decide +kernel
theorem dk_c5 : chk prog_1_method_5_code cm5.cd = true := by decide +kernel
theorem dk_c6 : chk prog_1_method_6_code cm6.cd = true := by decide +kernel
theorem dk_c9 : chk prog_1_method_9_code cm9.cd = true := by decide +kernel
theorem dk_c7 : chk prog_1_method_7_code cm7.cd = true := by decide +kernel
theorem dk_c10 : chk prog_1_method_10_code cm10.cd = true := by decide +kernel
theorem dk_c8 : chk prog_1_method_8_code cm8.cd = true := by decide +kernel
theorem dk_c11 : chk prog_1_method_11_code cm11.cd = true := by decide +kernel
theorem dk_c12 : chk prog_1_method_12_code cm12.cd = true := by decide +kernel
theorem dk_c14 : chk prog_1_method_14_code cm14.cd = true := by decide +kernel
theorem dk_c15 : chk prog_1_method_15_code cm15.cd = true := by decide +kernel
theorem dk_c13 : chk prog_1_method_13_code cm13.cd = true := by decide +kernel
theorem dk_c22 : chk prog_1_method_22_code cm22.cd = true := by decide +kernel
theorem dk_c27 : chk prog_1_method_27_code cm27.cd = true := by decide +kernel
theorem dk_c23 : chk prog_1_method_23_code cm23.cd = true := by decide +kernel
theorem dk_c31 : chk prog_1_method_31_code cm31.cd = true := by decide +kernel
theorem dk_c30 : chk prog_1_method_30_code cm30.cd = true := by decide +kernel
theorem dk_c24 : chk prog_1_method_24_code cm24.cd = true := by decide +kernel
theorem dk_c25 : chk prog_1_method_25_code cm25.cd = true := by decide +kernel
theorem dk_c34 : chk prog_1_method_34_code cm34.cd = true := by decide +kernel
theorem dk_c32 : chk prog_1_method_32_code cm32.cd = true := by decide +kernel
theorem dk_c35 : chk prog_1_method_35_code cm35.cd = true := by decide +kernel
theorem dk_c37 : chk prog_1_method_37_code cm37.cd = true := by decide +kernel
theorem dk_c36 : chk prog_1_method_36_code cm36.cd = true := by decide +kernel
theorem dk_c28 : chk prog_1_method_28_code cm28.cd = true := by decide +kernel
theorem dk_c29 : chk prog_1_method_29_code cm29.cd = true := by decide +kernel
theorem dk_l9 : chk method_9_code lm9.cd = true := by decide +kernel
theorem dk_c21 : chk prog_1_method_21_code cm21.cd = true := by decide +kernel
theorem dk_c26 : chk prog_1_method_26_code cm26.cd = true := by decide +kernel
theorem dk_c33 : chk prog_1_method_33_code cm33.cd = true := by decide +kernel
theorem chk_ap {bytes : ByteArray} : ∀ (x y : Cd), chk bytes x = true → chk bytes y = true → chk bytes (x ++ y) = true
  | [], y, _, h => h
  | (pc, i, n) :: r, y, h, k => by
    simp only [List.cons_append, chk, Bool.and_eq_true] at h ⊢
    exact ⟨h.1, chk_ap r y h.2 k⟩
theorem chk_td {bytes : ByteArray} {l : Cd} (n : Nat) (h : chk bytes (l.take n) = true) (k : chk bytes (l.drop n) = true) : chk bytes l = true := by
  have := chk_ap _ _ h k
  rwa [List.take_append_drop] at this
theorem dk_l0_0 : chk code (lm0.cd.take 80) = true := by decide +kernel
theorem dk_l0_1 : chk code ((lm0.cd.drop 80).take 80) = true := by decide +kernel
theorem dk_l0_2 : chk code (((lm0.cd.drop 80).drop 80).take 80) = true := by decide +kernel
theorem dk_l0_3 : chk code ((((lm0.cd.drop 80).drop 80).drop 80).take 80) = true := by decide +kernel
theorem dk_l0_4 : chk code ((((lm0.cd.drop 80).drop 80).drop 80).drop 80) = true := by decide +kernel
theorem dk_l0 : chk code lm0.cd = true := (chk_td 80 dk_l0_0 (chk_td 80 dk_l0_1 (chk_td 80 dk_l0_2 (chk_td 80 dk_l0_3 dk_l0_4))))
theorem pk_l3 : parseMethodDescriptor "([I)I" = some ⟨[.array .int], some .int⟩ := by decide +kernel
theorem pk_l2 : parseMethodDescriptor "([II)I" = some ⟨[.array .int, .int], some .int⟩ := by decide +kernel
theorem pk_l4 : parseMethodDescriptor "([I)I" = some ⟨[.array .int], some .int⟩ := by decide +kernel
theorem pk_c0 : parseMethodDescriptor "(II)V" = some ⟨[.int, .int], none⟩ := by decide +kernel
theorem pk_c2 : parseMethodDescriptor "(III)I" = some ⟨[.int, .int, .int], some .int⟩ := by decide +kernel
theorem pk_l5 : parseMethodDescriptor "([I)I" = some ⟨[.array .int], some .int⟩ := by decide +kernel
theorem pk_l6 : parseMethodDescriptor "([II)I" = some ⟨[.array .int, .int], some .int⟩ := by decide +kernel
theorem pk_c3 : parseMethodDescriptor "(I)I" = some ⟨[.int], some .int⟩ := by decide +kernel
theorem pk_l7 : parseMethodDescriptor "([II)I" = some ⟨[.array .int, .int], some .int⟩ := by decide +kernel
theorem pk_l8 : parseMethodDescriptor "([III)I" = some ⟨[.array .int, .int, .int], some .int⟩ := by decide +kernel
theorem pk_c4 : parseMethodDescriptor "(I)Z" = some ⟨[.int], some .boolean⟩ := by decide +kernel
theorem pk_c5 : parseMethodDescriptor "(I)Z" = some ⟨[.int], some .boolean⟩ := by decide +kernel
theorem pk_c6 : parseMethodDescriptor "()I" = some ⟨[], some .int⟩ := by decide +kernel
theorem pk_c9 : parseMethodDescriptor "()Z" = some ⟨[], some .boolean⟩ := by decide +kernel
theorem pk_c7 : parseMethodDescriptor "(II)Z" = some ⟨[.int, .int], some .boolean⟩ := by decide +kernel
theorem pk_c10 : parseMethodDescriptor "()Z" = some ⟨[], some .boolean⟩ := by decide +kernel
theorem pk_c8 : parseMethodDescriptor "(II)I" = some ⟨[.int, .int], some .int⟩ := by decide +kernel
theorem pk_c11 : parseMethodDescriptor "()Z" = some ⟨[], some .boolean⟩ := by decide +kernel
theorem pk_c12 : parseMethodDescriptor "(I)Z" = some ⟨[.int], some .boolean⟩ := by decide +kernel
theorem pk_c14 : parseMethodDescriptor "()V" = some ⟨[], none⟩ := by decide +kernel
theorem pk_c15 : parseMethodDescriptor "(I)V" = some ⟨[.int], none⟩ := by decide +kernel
theorem pk_c13 : parseMethodDescriptor "(I)I" = some ⟨[.int], some .int⟩ := by decide +kernel
theorem pk_c22 : parseMethodDescriptor "()I" = some ⟨[], some .int⟩ := by decide +kernel
theorem pk_c27 : parseMethodDescriptor "(II)Z" = some ⟨[.int, .int], some .boolean⟩ := by decide +kernel
theorem pk_c23 : parseMethodDescriptor "()I" = some ⟨[], some .int⟩ := by decide +kernel
theorem pk_c31 : parseMethodDescriptor "(I)V" = some ⟨[.int], none⟩ := by decide +kernel
theorem pk_c30 : parseMethodDescriptor "(I)I" = some ⟨[.int], some .int⟩ := by decide +kernel
theorem pk_c24 : parseMethodDescriptor "(III)V" = some ⟨[.int, .int, .int], none⟩ := by decide +kernel
theorem pk_c25 : parseMethodDescriptor "()V" = some ⟨[], none⟩ := by decide +kernel
theorem pk_c34 : parseMethodDescriptor "()I" = some ⟨[], some .int⟩ := by decide +kernel
theorem pk_c32 : parseMethodDescriptor "()I" = some ⟨[], some .int⟩ := by decide +kernel
theorem pk_c35 : parseMethodDescriptor "(I)I" = some ⟨[.int], some .int⟩ := by decide +kernel
theorem pk_c37 : parseMethodDescriptor "(I)I" = some ⟨[.int], some .int⟩ := by decide +kernel
theorem pk_c36 : parseMethodDescriptor "(I)I" = some ⟨[.int], some .int⟩ := by decide +kernel
theorem pk_c28 : parseMethodDescriptor "(II)Z" = some ⟨[.int, .int], some .boolean⟩ := by decide +kernel
theorem pk_c29 : parseMethodDescriptor "(I)V" = some ⟨[.int], none⟩ := by decide +kernel
theorem pk_l9 : parseMethodDescriptor "([II)I" = some ⟨[.array .int, .int], some .int⟩ := by decide +kernel
theorem pk_c21 : parseMethodDescriptor "(I)Z" = some ⟨[.int], some .boolean⟩ := by decide +kernel
theorem pk_c26 : parseMethodDescriptor "(II)V" = some ⟨[.int, .int], none⟩ := by decide +kernel
theorem pk_c33 : parseMethodDescriptor "(I)I" = some ⟨[.int], some .int⟩ := by decide +kernel
theorem lkC (Z : State) (a0 : Array Value) (hw : ∀ d ∈ tables_1, d.before a0 Z = true) : LinkC PP Z a0 :=
  ⟨⟨⟨25, (hw _ (List.mem_of_getElem? (i := 1) rfl))⟩, (hw _ (List.mem_of_getElem? (i := 2) rfl))⟩,
   asc_all (⟨by intro z h; obtain rfl : ("ruleLhs", "[I", 3, false) = z := Option.some.inj h; exact (hw _ (List.mem_of_getElem? (i := 20) rfl)), by intro z h; obtain rfl : ("ruleLen", "[I", 4, false) = z := Option.some.inj h; exact (hw _ (List.mem_of_getElem? (i := 22) rfl)), by intro z h; obtain rfl : ("ruleRhs", "[I", 5, false) = z := Option.some.inj h; exact (hw _ (List.mem_of_getElem? (i := 24) rfl)), by intro z h; obtain rfl : ("nullableNt", "[Z", 6, false) = z := Option.some.inj h; exact (hw _ (List.mem_of_getElem? (i := 27) rfl)), by intro z h; obtain rfl : ("firstNt", "[I", 7, false) = z := Option.some.inj h; exact (hw _ (List.mem_of_getElem? (i := 29) rfl)), by intro z h; obtain rfl : ("followNt", "[I", 8, false) = z := Option.some.inj h; exact (hw _ (List.mem_of_getElem? (i := 31) rfl)), by intro z h; obtain rfl : ("table", "[I", 9, false) = z := Option.some.inj h; exact (hw _ (List.mem_of_getElem? (i := 33) rfl)), by intro z h; obtain rfl : ("conflicts", "[I", 10, false) = z := Option.some.inj h; exact (hw _ (List.mem_of_getElem? (i := 35) rfl)), by intro z h; obtain rfl : ("tokens", "[I", 11, false) = z := Option.some.inj h; exact (hw _ (List.mem_of_getElem? (i := 37) rfl)), by intro z h; obtain rfl : ("nodeSym", "[I", 12, false) = z := Option.some.inj h; exact (hw _ (List.mem_of_getElem? (i := 39) rfl)), by intro z h; obtain rfl : ("nodePar", "[I", 13, false) = z := Option.some.inj h; exact (hw _ (List.mem_of_getElem? (i := 41) rfl)), by intro z h; obtain rfl : ("nodeDet", "[I", 14, false) = z := Option.some.inj h; exact (hw _ (List.mem_of_getElem? (i := 43) rfl)), by intro z h; obtain rfl : ("stack", "[I", 15, false) = z := Option.some.inj h; exact (hw _ (List.mem_of_getElem? (i := 45) rfl)), by intro z h; obtain rfl : ("errors", "[I", 16, false) = z := Option.some.inj h; exact (hw _ (List.mem_of_getElem? (i := 47) rfl)), by intro z h; obtain rfl : ("nNt", "I", 0, false) = z := Option.some.inj h; exact (hw _ (List.mem_of_getElem? (i := 53) rfl)), by intro z h; obtain rfl : ("nT", "I", 0, false) = z := Option.some.inj h; exact (hw _ (List.mem_of_getElem? (i := 55) rfl)), by intro z h; obtain rfl : ("ruleCount", "I", 0, false) = z := Option.some.inj h; exact (hw _ (List.mem_of_getElem? (i := 57) rfl)), by intro z h; obtain rfl : ("tokenCount", "I", 0, false) = z := Option.some.inj h; exact (hw _ (List.mem_of_getElem? (i := 59) rfl)), by intro z h; obtain rfl : ("nodeCount", "I", 0, false) = z := Option.some.inj h; exact (hw _ (List.mem_of_getElem? (i := 61) rfl)), by intro z h; obtain rfl : ("conflictCount", "I", 0, false) = z := Option.some.inj h; exact (hw _ (List.mem_of_getElem? (i := 63) rfl)), by intro z h; obtain rfl : ("errorCount", "I", 0, false) = z := Option.some.inj h; exact (hw _ (List.mem_of_getElem? (i := 65) rfl)), by intro z h; obtain rfl : ("sp", "I", 0, false) = z := Option.some.inj h; exact (hw _ (List.mem_of_getElem? (i := 67) rfl)), by intro z h; obtain rfl : ("pos", "I", 0, false) = z := Option.some.inj h; exact (hw _ (List.mem_of_getElem? (i := 69) rfl)), by intro z h; obtain rfl : ("built", "Z", 1, false) = z := Option.some.inj h; exact (hw _ (List.mem_of_getElem? (i := 71) rfl)), by intro z h; obtain rfl : ("parsed", "Z", 1, false) = z := Option.some.inj h; exact (hw _ (List.mem_of_getElem? (i := 73) rfl)), trivial⟩),
   asc_all (⟨(hw _ (List.mem_of_getElem? (i := 54) rfl)), (hw _ (List.mem_of_getElem? (i := 56) rfl)), (hw _ (List.mem_of_getElem? (i := 58) rfl)), (hw _ (List.mem_of_getElem? (i := 60) rfl)), (hw _ (List.mem_of_getElem? (i := 62) rfl)), (hw _ (List.mem_of_getElem? (i := 64) rfl)), (hw _ (List.mem_of_getElem? (i := 66) rfl)), (hw _ (List.mem_of_getElem? (i := 68) rfl)), (hw _ (List.mem_of_getElem? (i := 70) rfl)), (hw _ (List.mem_of_getElem? (i := 72) rfl)), (hw _ (List.mem_of_getElem? (i := 74) rfl)), (hw _ (List.mem_of_getElem? (i := 21) rfl)), (hw _ (List.mem_of_getElem? (i := 23) rfl)), (hw _ (List.mem_of_getElem? (i := 25) rfl)), (hw _ (List.mem_of_getElem? (i := 28) rfl)), (hw _ (List.mem_of_getElem? (i := 30) rfl)), (hw _ (List.mem_of_getElem? (i := 32) rfl)), (hw _ (List.mem_of_getElem? (i := 34) rfl)), (hw _ (List.mem_of_getElem? (i := 36) rfl)), (hw _ (List.mem_of_getElem? (i := 38) rfl)), (hw _ (List.mem_of_getElem? (i := 40) rfl)), (hw _ (List.mem_of_getElem? (i := 42) rfl)), (hw _ (List.mem_of_getElem? (i := 44) rfl)), (hw _ (List.mem_of_getElem? (i := 46) rfl)), (hw _ (List.mem_of_getElem? (i := 48) rfl)), trivial⟩),
   asc_all (⟨(by decide +kernel), (by decide +kernel), (by decide +kernel), (by decide +kernel), (by decide +kernel), (by decide +kernel), (by decide +kernel), (by decide +kernel), (by decide +kernel), (by decide +kernel), (by decide +kernel), (by decide +kernel), (by decide +kernel), (by decide +kernel), (by decide +kernel), (by decide +kernel), (by decide +kernel), (by decide +kernel), (by decide +kernel), (by decide +kernel), (by decide +kernel), (by decide +kernel), (by decide +kernel), (by decide +kernel), (by decide +kernel), trivial⟩),
   dst_ok (by decide +kernel),
   lst_all (⟨⟨by decide, (hw _ (List.mem_of_getElem? (i := 19) rfl))⟩, ⟨by decide, (hw _ (List.mem_of_getElem? (i := 19) rfl))⟩, ⟨by decide, (hw _ (List.mem_of_getElem? (i := 19) rfl))⟩, ⟨by decide, (hw _ (List.mem_of_getElem? (i := 26) rfl))⟩, ⟨by decide, (hw _ (List.mem_of_getElem? (i := 19) rfl))⟩, ⟨by decide, (hw _ (List.mem_of_getElem? (i := 19) rfl))⟩, ⟨by decide, (hw _ (List.mem_of_getElem? (i := 19) rfl))⟩, ⟨by decide, (hw _ (List.mem_of_getElem? (i := 19) rfl))⟩, ⟨by decide, (hw _ (List.mem_of_getElem? (i := 19) rfl))⟩, ⟨by decide, (hw _ (List.mem_of_getElem? (i := 19) rfl))⟩, ⟨by decide, (hw _ (List.mem_of_getElem? (i := 19) rfl))⟩, ⟨by decide, (hw _ (List.mem_of_getElem? (i := 19) rfl))⟩, ⟨by decide, (hw _ (List.mem_of_getElem? (i := 19) rfl))⟩, ⟨by decide, (hw _ (List.mem_of_getElem? (i := 19) rfl))⟩, trivial⟩),
   asc_all (trivial),
   ⟨(hw _ (List.mem_of_getElem? (i := 16) rfl)), (hw _ (List.mem_of_getElem? (i := 17) rfl)), (hw _ (List.mem_of_getElem? (i := 18) rfl))⟩,
   asc_all (⟨⟨prog_1_method_1_code, [.int, .int], (hw _ (List.mem_of_getElem? (i := 15) rfl)), chk_ok dk_c0, pk_c0, rfl⟩, ⟨prog_1_method_2_code, [.int, .int, .int], (hw _ (List.mem_of_getElem? (i := 52) rfl)), chk_ok dk_c2, pk_c2, rfl⟩, ⟨prog_1_method_3_code, [.int], (hw _ (List.mem_of_getElem? (i := 85) rfl)), chk_ok dk_c3, pk_c3, rfl⟩, ⟨prog_1_method_4_code, [.int], (hw _ (List.mem_of_getElem? (i := 97) rfl)), chk_ok dk_c4, pk_c4, rfl⟩, ⟨prog_1_method_5_code, [.int], (hw _ (List.mem_of_getElem? (i := 101) rfl)), chk_ok dk_c5, pk_c5, rfl⟩, ⟨prog_1_method_6_code, [], (hw _ (List.mem_of_getElem? (i := 106) rfl)), chk_ok dk_c6, pk_c6, rfl⟩, ⟨prog_1_method_7_code, [.int, .int], (hw _ (List.mem_of_getElem? (i := 114) rfl)), chk_ok dk_c7, pk_c7, rfl⟩, ⟨prog_1_method_8_code, [.int, .int], (hw _ (List.mem_of_getElem? (i := 122) rfl)), chk_ok dk_c8, pk_c8, rfl⟩, ⟨prog_1_method_9_code, [], (hw _ (List.mem_of_getElem? (i := 110) rfl)), chk_ok dk_c9, pk_c9, rfl⟩, ⟨prog_1_method_10_code, [], (hw _ (List.mem_of_getElem? (i := 118) rfl)), chk_ok dk_c10, pk_c10, rfl⟩, ⟨prog_1_method_11_code, [], (hw _ (List.mem_of_getElem? (i := 126) rfl)), chk_ok dk_c11, pk_c11, rfl⟩, ⟨prog_1_method_12_code, [.int], (hw _ (List.mem_of_getElem? (i := 130) rfl)), chk_ok dk_c12, pk_c12, rfl⟩, ⟨prog_1_method_13_code, [.int], (hw _ (List.mem_of_getElem? (i := 142) rfl)), chk_ok dk_c13, pk_c13, rfl⟩, ⟨prog_1_method_14_code, [], (hw _ (List.mem_of_getElem? (i := 134) rfl)), chk_ok dk_c14, pk_c14, rfl⟩, ⟨prog_1_method_15_code, [.int], (hw _ (List.mem_of_getElem? (i := 138) rfl)), chk_ok dk_c15, pk_c15, rfl⟩, ⟨prog_1_method_21_code, [.int], (hw _ (List.mem_of_getElem? (i := 212) rfl)), chk_ok dk_c21, pk_c21, rfl⟩, ⟨prog_1_method_22_code, [], (hw _ (List.mem_of_getElem? (i := 147) rfl)), chk_ok dk_c22, pk_c22, rfl⟩, ⟨prog_1_method_23_code, [], (hw _ (List.mem_of_getElem? (i := 155) rfl)), chk_ok dk_c23, pk_c23, rfl⟩, ⟨prog_1_method_24_code, [.int, .int, .int], (hw _ (List.mem_of_getElem? (i := 167) rfl)), chk_ok dk_c24, pk_c24, rfl⟩, ⟨prog_1_method_25_code, [], (hw _ (List.mem_of_getElem? (i := 171) rfl)), chk_ok dk_c25, pk_c25, rfl⟩, ⟨prog_1_method_26_code, [.int, .int], (hw _ (List.mem_of_getElem? (i := 216) rfl)), chk_ok dk_c26, pk_c26, rfl⟩, ⟨prog_1_method_27_code, [.int, .int], (hw _ (List.mem_of_getElem? (i := 151) rfl)), chk_ok dk_c27, pk_c27, rfl⟩, ⟨prog_1_method_28_code, [.int, .int], (hw _ (List.mem_of_getElem? (i := 200) rfl)), chk_ok dk_c28, pk_c28, rfl⟩, ⟨prog_1_method_29_code, [.int], (hw _ (List.mem_of_getElem? (i := 204) rfl)), chk_ok dk_c29, pk_c29, rfl⟩, ⟨prog_1_method_30_code, [.int], (hw _ (List.mem_of_getElem? (i := 163) rfl)), chk_ok dk_c30, pk_c30, rfl⟩, ⟨prog_1_method_31_code, [.int], (hw _ (List.mem_of_getElem? (i := 159) rfl)), chk_ok dk_c31, pk_c31, rfl⟩, ⟨prog_1_method_32_code, [], (hw _ (List.mem_of_getElem? (i := 181) rfl)), chk_ok dk_c32, pk_c32, rfl⟩, ⟨prog_1_method_33_code, [.int], (hw _ (List.mem_of_getElem? (i := 221) rfl)), chk_ok dk_c33, pk_c33, rfl⟩, ⟨prog_1_method_34_code, [], (hw _ (List.mem_of_getElem? (i := 176) rfl)), chk_ok dk_c34, pk_c34, rfl⟩, ⟨prog_1_method_35_code, [.int], (hw _ (List.mem_of_getElem? (i := 186) rfl)), chk_ok dk_c35, pk_c35, rfl⟩, ⟨prog_1_method_36_code, [.int], (hw _ (List.mem_of_getElem? (i := 196) rfl)), chk_ok dk_c36, pk_c36, rfl⟩, ⟨prog_1_method_37_code, [.int], (hw _ (List.mem_of_getElem? (i := 191) rfl)), chk_ok dk_c37, pk_c37, rfl⟩, trivial⟩),
   asc_all (⟨by intro z h; obtain rfl : cm2 = z := Option.some.inj h; exact ⟨(hw _ (List.mem_of_getElem? (i := 49) rfl)), (hw _ (List.mem_of_getElem? (i := 50) rfl)), Or.inl (hw _ (List.mem_of_getElem? (i := 51) rfl))⟩, by intro z h; obtain rfl : cm5 = z := Option.some.inj h; exact ⟨(hw _ (List.mem_of_getElem? (i := 98) rfl)), (hw _ (List.mem_of_getElem? (i := 99) rfl)), Or.inl (hw _ (List.mem_of_getElem? (i := 100) rfl))⟩, by intro z h; obtain rfl : cm9 = z := Option.some.inj h; exact ⟨(hw _ (List.mem_of_getElem? (i := 107) rfl)), (hw _ (List.mem_of_getElem? (i := 108) rfl)), Or.inl (hw _ (List.mem_of_getElem? (i := 109) rfl))⟩, by intro z h; obtain rfl : cm10 = z := Option.some.inj h; exact ⟨(hw _ (List.mem_of_getElem? (i := 115) rfl)), (hw _ (List.mem_of_getElem? (i := 116) rfl)), Or.inl (hw _ (List.mem_of_getElem? (i := 117) rfl))⟩, by intro z h; obtain rfl : cm11 = z := Option.some.inj h; exact ⟨(hw _ (List.mem_of_getElem? (i := 123) rfl)), (hw _ (List.mem_of_getElem? (i := 124) rfl)), Or.inl (hw _ (List.mem_of_getElem? (i := 125) rfl))⟩, by intro z h; obtain rfl : cm14 = z := Option.some.inj h; exact ⟨(hw _ (List.mem_of_getElem? (i := 131) rfl)), (hw _ (List.mem_of_getElem? (i := 132) rfl)), Or.inl (hw _ (List.mem_of_getElem? (i := 133) rfl))⟩, by intro z h; obtain rfl : cm7 = z := Option.some.inj h; exact ⟨(hw _ (List.mem_of_getElem? (i := 111) rfl)), (hw _ (List.mem_of_getElem? (i := 112) rfl)), Or.inl (hw _ (List.mem_of_getElem? (i := 113) rfl))⟩, by intro z h; obtain rfl : cm8 = z := Option.some.inj h; exact ⟨(hw _ (List.mem_of_getElem? (i := 119) rfl)), (hw _ (List.mem_of_getElem? (i := 120) rfl)), Or.inl (hw _ (List.mem_of_getElem? (i := 121) rfl))⟩, by intro z h; obtain rfl : cm12 = z := Option.some.inj h; exact ⟨(hw _ (List.mem_of_getElem? (i := 127) rfl)), (hw _ (List.mem_of_getElem? (i := 128) rfl)), Or.inl (hw _ (List.mem_of_getElem? (i := 129) rfl))⟩, by intro z h; obtain rfl : cm15 = z := Option.some.inj h; exact ⟨(hw _ (List.mem_of_getElem? (i := 135) rfl)), (hw _ (List.mem_of_getElem? (i := 136) rfl)), Or.inl (hw _ (List.mem_of_getElem? (i := 137) rfl))⟩, by intro z h; obtain rfl : cm13 = z := Option.some.inj h; exact ⟨(hw _ (List.mem_of_getElem? (i := 139) rfl)), (hw _ (List.mem_of_getElem? (i := 140) rfl)), Or.inl (hw _ (List.mem_of_getElem? (i := 141) rfl))⟩, by intro z h; obtain rfl : cm25 = z := Option.some.inj h; exact ⟨(hw _ (List.mem_of_getElem? (i := 168) rfl)), (hw _ (List.mem_of_getElem? (i := 169) rfl)), Or.inl (hw _ (List.mem_of_getElem? (i := 170) rfl))⟩, by intro z h; obtain rfl : cm26 = z := Option.some.inj h; exact ⟨(hw _ (List.mem_of_getElem? (i := 213) rfl)), (hw _ (List.mem_of_getElem? (i := 214) rfl)), Or.inl (hw _ (List.mem_of_getElem? (i := 215) rfl))⟩, by intro z h; obtain rfl : cm27 = z := Option.some.inj h; exact ⟨(hw _ (List.mem_of_getElem? (i := 148) rfl)), (hw _ (List.mem_of_getElem? (i := 149) rfl)), Or.inl (hw _ (List.mem_of_getElem? (i := 150) rfl))⟩, by intro z h; obtain rfl : cm24 = z := Option.some.inj h; exact ⟨(hw _ (List.mem_of_getElem? (i := 164) rfl)), (hw _ (List.mem_of_getElem? (i := 165) rfl)), Or.inl (hw _ (List.mem_of_getElem? (i := 166) rfl))⟩, by intro z h; obtain rfl : cm23 = z := Option.some.inj h; exact ⟨(hw _ (List.mem_of_getElem? (i := 152) rfl)), (hw _ (List.mem_of_getElem? (i := 153) rfl)), Or.inl (hw _ (List.mem_of_getElem? (i := 154) rfl))⟩, by intro z h; obtain rfl : cm28 = z := Option.some.inj h; exact ⟨(hw _ (List.mem_of_getElem? (i := 197) rfl)), (hw _ (List.mem_of_getElem? (i := 198) rfl)), Or.inl (hw _ (List.mem_of_getElem? (i := 199) rfl))⟩, by intro z h; obtain rfl : cm31 = z := Option.some.inj h; exact ⟨(hw _ (List.mem_of_getElem? (i := 156) rfl)), (hw _ (List.mem_of_getElem? (i := 157) rfl)), Or.inl (hw _ (List.mem_of_getElem? (i := 158) rfl))⟩, by intro z h; obtain rfl : cm29 = z := Option.some.inj h; exact ⟨(hw _ (List.mem_of_getElem? (i := 201) rfl)), (hw _ (List.mem_of_getElem? (i := 202) rfl)), Or.inl (hw _ (List.mem_of_getElem? (i := 203) rfl))⟩, by intro z h; obtain rfl : cm30 = z := Option.some.inj h; exact ⟨(hw _ (List.mem_of_getElem? (i := 160) rfl)), (hw _ (List.mem_of_getElem? (i := 161) rfl)), Or.inl (hw _ (List.mem_of_getElem? (i := 162) rfl))⟩, trivial⟩),
   (by first | (simp [plainName, overriddenIn]; done) | decide +kernel),
   (by decide),
   (by intro me h; obtain rfl : cm0 = me := Option.some.inj h; rfl)⟩
theorem lkL (Z : State) (a0 : Array Value) (hw : ∀ d ∈ tables_1, d.before a0 Z = true) : LinkL PP QQ Z a0 :=
  ⟨⟨(hw _ (List.mem_of_getElem? (i := 0) rfl)), (hw _ (List.mem_of_getElem? (i := 1) rfl))⟩,
   (by intro me h; obtain rfl : cm0 = me := Option.some.inj h; exact ⟨(hw _ (List.mem_of_getElem? (i := 13) rfl)), (hw _ (List.mem_of_getElem? (i := 14) rfl)), rfl⟩),
   asc_all (⟨by intro z h; obtain rfl : cm3 = z := Option.some.inj h; exact ⟨(hw _ (List.mem_of_getElem? (i := 81) rfl)), (hw _ (List.mem_of_getElem? (i := 82) rfl)), (hw _ (List.mem_of_getElem? (i := 83) rfl)), (hw _ (List.mem_of_getElem? (i := 84) rfl))⟩, by intro z h; obtain rfl : cm4 = z := Option.some.inj h; exact ⟨(hw _ (List.mem_of_getElem? (i := 93) rfl)), (hw _ (List.mem_of_getElem? (i := 94) rfl)), (hw _ (List.mem_of_getElem? (i := 95) rfl)), (hw _ (List.mem_of_getElem? (i := 96) rfl))⟩, by intro z h; obtain rfl : cm21 = z := Option.some.inj h; exact ⟨(hw _ (List.mem_of_getElem? (i := 208) rfl)), (hw _ (List.mem_of_getElem? (i := 209) rfl)), (hw _ (List.mem_of_getElem? (i := 210) rfl)), (hw _ (List.mem_of_getElem? (i := 211) rfl))⟩, by intro z h; obtain rfl : cm6 = z := Option.some.inj h; exact ⟨(hw _ (List.mem_of_getElem? (i := 102) rfl)), (hw _ (List.mem_of_getElem? (i := 103) rfl)), (hw _ (List.mem_of_getElem? (i := 104) rfl)), (hw _ (List.mem_of_getElem? (i := 105) rfl))⟩, by intro z h; obtain rfl : cm22 = z := Option.some.inj h; exact ⟨(hw _ (List.mem_of_getElem? (i := 143) rfl)), (hw _ (List.mem_of_getElem? (i := 144) rfl)), (hw _ (List.mem_of_getElem? (i := 145) rfl)), (hw _ (List.mem_of_getElem? (i := 146) rfl))⟩, by intro z h; obtain rfl : cm34 = z := Option.some.inj h; exact ⟨(hw _ (List.mem_of_getElem? (i := 172) rfl)), (hw _ (List.mem_of_getElem? (i := 173) rfl)), (hw _ (List.mem_of_getElem? (i := 174) rfl)), (hw _ (List.mem_of_getElem? (i := 175) rfl))⟩, by intro z h; obtain rfl : cm32 = z := Option.some.inj h; exact ⟨(hw _ (List.mem_of_getElem? (i := 177) rfl)), (hw _ (List.mem_of_getElem? (i := 178) rfl)), (hw _ (List.mem_of_getElem? (i := 179) rfl)), (hw _ (List.mem_of_getElem? (i := 180) rfl))⟩, by intro z h; obtain rfl : cm35 = z := Option.some.inj h; exact ⟨(hw _ (List.mem_of_getElem? (i := 182) rfl)), (hw _ (List.mem_of_getElem? (i := 183) rfl)), (hw _ (List.mem_of_getElem? (i := 184) rfl)), (hw _ (List.mem_of_getElem? (i := 185) rfl))⟩, by intro z h; obtain rfl : cm37 = z := Option.some.inj h; exact ⟨(hw _ (List.mem_of_getElem? (i := 187) rfl)), (hw _ (List.mem_of_getElem? (i := 188) rfl)), (hw _ (List.mem_of_getElem? (i := 189) rfl)), (hw _ (List.mem_of_getElem? (i := 190) rfl))⟩, by intro z h; obtain rfl : cm36 = z := Option.some.inj h; exact ⟨(hw _ (List.mem_of_getElem? (i := 192) rfl)), (hw _ (List.mem_of_getElem? (i := 193) rfl)), (hw _ (List.mem_of_getElem? (i := 194) rfl)), (hw _ (List.mem_of_getElem? (i := 195) rfl))⟩, by intro z h; obtain rfl : cm33 = z := Option.some.inj h; exact ⟨(hw _ (List.mem_of_getElem? (i := 217) rfl)), (hw _ (List.mem_of_getElem? (i := 218) rfl)), (hw _ (List.mem_of_getElem? (i := 219) rfl)), (hw _ (List.mem_of_getElem? (i := 220) rfl))⟩, trivial⟩),
   asc_all (⟨by intro z h; obtain rfl : lm2 = z := Option.some.inj h; exact ⟨(hw _ (List.mem_of_getElem? (i := 7) rfl)), (hw _ (List.mem_of_getElem? (i := 8) rfl)), (hw _ (List.mem_of_getElem? (i := 5) rfl))⟩, by intro z h; obtain rfl : lm3 = z := Option.some.inj h; exact ⟨(hw _ (List.mem_of_getElem? (i := 3) rfl)), (hw _ (List.mem_of_getElem? (i := 4) rfl)), (hw _ (List.mem_of_getElem? (i := 5) rfl))⟩, by intro z h; obtain rfl : lm4 = z := Option.some.inj h; exact ⟨(hw _ (List.mem_of_getElem? (i := 10) rfl)), (hw _ (List.mem_of_getElem? (i := 11) rfl)), (hw _ (List.mem_of_getElem? (i := 5) rfl))⟩, by intro z h; obtain rfl : lm5 = z := Option.some.inj h; exact ⟨(hw _ (List.mem_of_getElem? (i := 75) rfl)), (hw _ (List.mem_of_getElem? (i := 76) rfl)), (hw _ (List.mem_of_getElem? (i := 5) rfl))⟩, by intro z h; obtain rfl : lm6 = z := Option.some.inj h; exact ⟨(hw _ (List.mem_of_getElem? (i := 78) rfl)), (hw _ (List.mem_of_getElem? (i := 79) rfl)), (hw _ (List.mem_of_getElem? (i := 5) rfl))⟩, by intro z h; obtain rfl : lm7 = z := Option.some.inj h; exact ⟨(hw _ (List.mem_of_getElem? (i := 86) rfl)), (hw _ (List.mem_of_getElem? (i := 87) rfl)), (hw _ (List.mem_of_getElem? (i := 5) rfl))⟩, by intro z h; obtain rfl : lm8 = z := Option.some.inj h; exact ⟨(hw _ (List.mem_of_getElem? (i := 89) rfl)), (hw _ (List.mem_of_getElem? (i := 90) rfl)), (hw _ (List.mem_of_getElem? (i := 5) rfl))⟩, by intro z h; obtain rfl : lm9 = z := Option.some.inj h; exact ⟨(hw _ (List.mem_of_getElem? (i := 205) rfl)), (hw _ (List.mem_of_getElem? (i := 206) rfl)), (hw _ (List.mem_of_getElem? (i := 5) rfl))⟩, trivial⟩),
   asc_all (⟨(hw _ (List.mem_of_getElem? (i := 92) rfl)), trivial⟩),
   asc_all (⟨fun h => absurd rfl h, fun _ => ⟨method_2_code, [.array .int, .int], (hw _ (List.mem_of_getElem? (i := 9) rfl)), chk_ok dk_l2, pk_l2, rfl⟩, fun _ => ⟨method_3_code, [.array .int], (hw _ (List.mem_of_getElem? (i := 6) rfl)), chk_ok dk_l3, pk_l3, rfl⟩, fun _ => ⟨method_4_code, [.array .int], (hw _ (List.mem_of_getElem? (i := 12) rfl)), chk_ok dk_l4, pk_l4, rfl⟩, fun _ => ⟨method_5_code, [.array .int], (hw _ (List.mem_of_getElem? (i := 77) rfl)), chk_ok dk_l5, pk_l5, rfl⟩, fun _ => ⟨method_6_code, [.array .int, .int], (hw _ (List.mem_of_getElem? (i := 80) rfl)), chk_ok dk_l6, pk_l6, rfl⟩, fun _ => ⟨method_7_code, [.array .int, .int], (hw _ (List.mem_of_getElem? (i := 88) rfl)), chk_ok dk_l7, pk_l7, rfl⟩, fun _ => ⟨method_8_code, [.array .int, .int, .int], (hw _ (List.mem_of_getElem? (i := 91) rfl)), chk_ok dk_l8, pk_l8, rfl⟩, fun _ => ⟨method_9_code, [.array .int, .int], (hw _ (List.mem_of_getElem? (i := 207) rfl)), chk_ok dk_l9, pk_l9, rfl⟩, trivial⟩),
   (by first | (simp [plainName, overriddenIn]; done) | decide +kernel),
   (by decide)⟩
theorem l2r0W0p_in (N : Nat) (sg : Nat → Int32) (a1 : Int32)  (Q : Int32 → Wd → Prop) (h : ((a1 < (Int32.ofNat N)) → inb N a1 ∧ Q (sg (ix a1)) W0p) ∧ (¬ (a1 < (Int32.ofNat N)) → Q (0 : Int32) W0p)) : lalI PP QQ (some (N, sg)) 2 [.ref 0, .int a1] W0p Q := by
  refine lal_of (me := lm2) (ls := [some (.ref 0), some (.int a1)]) rfl (Nat.le_of_ble_eq_true rfl) rfl ?_
  refine wpl_sl (n := 2) (pc' := 2) (ls' := [some (.ref 0), some (.int a1)]) (st' := [.ref 0, .int a1]) rfl ?_
  refine wpl_len rfl ?_
  refine wpl_icmp (a := 12) (b := 6) rfl (by decide) rfl rfl (wpl_br (p := a1 < (Int32.ofNat N)) ⟨fun hc288 => ?_, fun hc288 => ?_⟩)
  · have h289 := h.1 hc288
    refine wpl_sl (n := 2) (pc' := 8) (ls' := [some (.ref 0), some (.int a1)]) (st' := [.int a1, .ref 0]) rfl ?_
    refine wpl_lda rfl h289.1 ?_
    have h291 := h289.2
    refine wpl_sl (n := 1) (pc' := 13) (ls' := [some (.ref 0), some (.int a1)]) (st' := [.int (sg (ix a1))]) rfl ?_
    exact wpl_ret rfl rfl rfl ⟨(sg (ix a1)), rfl, h291⟩
  · have h290 := h.2 hc288
    refine wpl_sl (n := 1) (pc' := 13) (ls' := [some (.ref 0), some (.int a1)]) (st' := [.int (0 : Int32)]) rfl ?_
    exact wpl_ret rfl rfl rfl ⟨(0 : Int32), rfl, h290⟩
theorem l3r0W0p_in (N : Nat) (sg : Nat → Int32)   (Q : Int32 → Wd → Prop) (h : lalI PP QQ (some (N, sg)) 2 [.ref 0, .int (0 : Int32)] W0p (fun v286 w285 => w285 = W0p ∧ (Q ((1 : Int32) + (v286 &&& (3 : Int32))) W0p))) : lalI PP QQ (some (N, sg)) 3 [.ref 0] W0p Q := by
  refine lal_of (me := lm3) (ls := [some (.ref 0)]) rfl (Nat.le_of_ble_eq_true rfl) rfl ?_
  refine wpl_sl (n := 3) (pc' := 3) (ls' := [some (.ref 0)]) (st' := [.int (0 : Int32), .ref 0, .int (1 : Int32)]) rfl ?_
  refine wpl_stat (m' := 2) (me' := lm2) (as := [.ref 0, .int (0 : Int32)]) (r := [.int (1 : Int32)]) rfl rfl rfl rfl rfl ⟨(by first | decide | exact Nat.le_of_ble_eq_true rfl), (by first | decide | exact Nat.le_of_ble_eq_true rfl), (by first | decide | exact Nat.le_of_ble_eq_true rfl), (by first | decide | exact Nat.le_of_ble_eq_true rfl), rfl⟩ (lal_I (lalI.mono h fun v286 w285 hh => ?_))
  obtain ⟨rfl, h287⟩ := hh
  refine wpl_sl (n := 3) (pc' := 9) (ls' := [some (.ref 0)]) (st' := [.int ((1 : Int32) + (v286 &&& (3 : Int32)))]) rfl ?_
  exact wpl_ret rfl rfl rfl ⟨((1 : Int32) + (v286 &&& (3 : Int32))), rfl, h287⟩
theorem l4r0W0p_in (N : Nat) (sg : Nat → Int32)   (Q : Int32 → Wd → Prop) (h : lalI PP QQ (some (N, sg)) 2 [.ref 0, .int (1 : Int32)] W0p (fun v293 w292 => w292 = W0p ∧ (Q ((1 : Int32) + (v293 &&& (3 : Int32))) W0p))) : lalI PP QQ (some (N, sg)) 4 [.ref 0] W0p Q := by
  refine lal_of (me := lm4) (ls := [some (.ref 0)]) rfl (Nat.le_of_ble_eq_true rfl) rfl ?_
  refine wpl_sl (n := 3) (pc' := 3) (ls' := [some (.ref 0)]) (st' := [.int (1 : Int32), .ref 0, .int (1 : Int32)]) rfl ?_
  refine wpl_stat (m' := 2) (me' := lm2) (as := [.ref 0, .int (1 : Int32)]) (r := [.int (1 : Int32)]) rfl rfl rfl rfl rfl ⟨(by first | decide | exact Nat.le_of_ble_eq_true rfl), (by first | decide | exact Nat.le_of_ble_eq_true rfl), (by first | decide | exact Nat.le_of_ble_eq_true rfl), (by first | decide | exact Nat.le_of_ble_eq_true rfl), rfl⟩ (lal_I (lalI.mono h fun v293 w292 hh => ?_))
  obtain ⟨rfl, h294⟩ := hh
  refine wpl_sl (n := 3) (pc' := 9) (ls' := [some (.ref 0)]) (st' := [.int ((1 : Int32) + (v293 &&& (3 : Int32)))]) rfl ?_
  exact wpl_ret rfl rfl rfl ⟨((1 : Int32) + (v293 &&& (3 : Int32))), rfl, h294⟩
theorem c2_in (a1 : Int32) (a2 : Int32) (a3 : Int32) (s : St) (Q : Int32 → St → Prop) (h : ((a1 < a2) → Q a2 s) ∧ (¬ (a1 < a2) → ((a3 < a1) → Q a3 s) ∧ (¬ (a3 < a1) → Q a1 s))) : calI PP 2 14 [.ref 0, .int a1, .int a2, .int a3] s Q := by
  refine cal_of (me := cm2) (ls := [some (.ref 0), some (.int a1), some (.int a2), some (.int a3)]) rfl (Nat.le_of_ble_eq_true rfl) rfl ?_
  refine wpc_sl (n := 2) (c' := 14) (pc' := 2) (ls' := [some (.ref 0), some (.int a1), some (.int a2), some (.int a3)]) (st' := [.int a2, .int a1]) (s' := s) rfl ?_
  refine wpc_icmp (a := 7) (b := 5) rfl (by decide) rfl rfl (wpc_br (p := a1 < a2) ⟨fun hc301 => ?_, fun hc301 => ?_⟩)
  · have h302 := h.1 hc301
    refine wpc_sl (n := 1) (c' := 14) (pc' := 6) (ls' := [some (.ref 0), some (.int a1), some (.int a2), some (.int a3)]) (st' := [.int a2]) (s' := s) rfl ?_
    exact wpc_ret rfl rfl (fun q => absurd q (by decide)) rfl ⟨a2, rfl, h302⟩
  · have h303 := h.2 hc301
    refine wpc_sl (n := 2) (c' := 14) (pc' := 9) (ls' := [some (.ref 0), some (.int a1), some (.int a2), some (.int a3)]) (st' := [.int a3, .int a1]) (s' := s) rfl ?_
    refine wpc_icmp (a := 14) (b := 12) rfl (by decide) rfl rfl (wpc_br (p := a3 < a1) ⟨fun hc304 => ?_, fun hc304 => ?_⟩)
    · have h305 := h303.1 hc304
      refine wpc_sl (n := 1) (c' := 14) (pc' := 13) (ls' := [some (.ref 0), some (.int a1), some (.int a2), some (.int a3)]) (st' := [.int a3]) (s' := s) rfl ?_
      exact wpc_ret rfl rfl (fun q => absurd q (by decide)) rfl ⟨a3, rfl, h305⟩
    · have h306 := h303.2 hc304
      refine wpc_sl (n := 1) (c' := 14) (pc' := 15) (ls' := [some (.ref 0), some (.int a1), some (.int a2), some (.int a3)]) (st' := [.int a1]) (s' := s) rfl ?_
      exact wpc_ret rfl rfl (fun q => absurd q (by decide)) rfl ⟨a1, rfl, h306⟩
theorem c0_in (a1 : Int32) (a2 : Int32) (s : St) (Q : St → Prop) (h : calI PP 2 14 [.ref 0, .int a1, .int (1 : Int32), .int (8 : Int32)] s (fun v296 s295 => calI PP 2 14 [.ref 0, .int a2, .int (1 : Int32), .int (15 : Int32)] (sI s295 0 15 v296) (fun v299 s298 => Q (sI (sI (sI (sI (sI (sI (sI (sI (sI (sI s298 0 16 v299) 0 17 (0 : Int32)) 0 18 (0 : Int32)) 0 19 (0 : Int32)) 0 20 (0 : Int32)) 0 21 (0 : Int32)) 0 22 (0 : Int32)) 0 23 (0 : Int32)) 0 24 (0 : Int32)) 0 25 (0 : Int32))))) : calV PP 0 0 [.ref 0, .int a1, .int a2] s Q := by
  refine cal_of (me := cm0) (ls := [some (.ref 0), some (.int a1), some (.int a2)]) rfl (Nat.le_of_ble_eq_true rfl) rfl ?_
  refine wpc_sl (n := 49) (c' := 14) (pc' := 128) (ls' := [some (.ref 0), some (.int a1), some (.int a2)]) (st' := [.int (8 : Int32), .int (1 : Int32), .int a1, .ref 0, .ref 0]) (s' := s) rfl ?_
  refine wpc_callI (m' := 2) (me' := cm2) (as := [.int a1, .int (1 : Int32), .int (8 : Int32)]) (r := [.ref 0]) rfl rfl rfl rfl rfl ⟨by decide, (by first | decide | exact Nat.le_of_ble_eq_true rfl), (by first | decide | exact Nat.le_of_ble_eq_true rfl), rfl⟩ (calI.mono h fun v296 s295 h297 => ?_)
  refine wpc_sl (n := 6) (c' := 14) (pc' := 140) (ls' := [some (.ref 0), some (.int a1), some (.int a2)]) (st' := [.int (15 : Int32), .int (1 : Int32), .int a2, .ref 0, .ref 0]) (s' := (sI s295 0 15 v296)) rfl ?_
  refine wpc_callI (m' := 2) (me' := cm2) (as := [.int a2, .int (1 : Int32), .int (15 : Int32)]) (r := [.ref 0]) rfl rfl rfl rfl rfl ⟨by decide, (by first | decide | exact Nat.le_of_ble_eq_true rfl), (by first | decide | exact Nat.le_of_ble_eq_true rfl), rfl⟩ (calI.mono h297 fun v299 s298 h300 => ?_)
  refine wpc_sl (n := 28) (c' := 14) (pc' := 191) (ls' := [some (.ref 0), some (.int a1), some (.int a2)]) (st' := []) (s' := (sI (sI (sI (sI (sI (sI (sI (sI (sI (sI s298 0 16 v299) 0 17 (0 : Int32)) 0 18 (0 : Int32)) 0 19 (0 : Int32)) 0 20 (0 : Int32)) 0 21 (0 : Int32)) 0 22 (0 : Int32)) 0 23 (0 : Int32)) 0 24 (0 : Int32)) 0 25 (0 : Int32))) rfl ?_
  exact wpc_ret rfl rfl (fun _ => rfl) rfl ⟨rfl, h300⟩
theorem l2r0W1_in (N : Nat) (sg : Nat → Int32) (a1 : Int32) (s : St) (Q : Int32 → Wd → Prop) (h : ((a1 < (Int32.ofNat N)) → inb N a1 ∧ Q (sg (ix a1)) (W1 s)) ∧ (¬ (a1 < (Int32.ofNat N)) → Q (0 : Int32) (W1 s))) : lalI PP QQ (some (N, sg)) 2 [.ref 0, .int a1] (W1 s) Q := by
  refine lal_of (me := lm2) (ls := [some (.ref 0), some (.int a1)]) rfl (Nat.le_of_ble_eq_true rfl) rfl ?_
  refine wpl_sl (n := 2) (pc' := 2) (ls' := [some (.ref 0), some (.int a1)]) (st' := [.ref 0, .int a1]) rfl ?_
  refine wpl_len rfl ?_
  refine wpl_icmp (a := 12) (b := 6) rfl (by decide) rfl rfl (wpl_br (p := a1 < (Int32.ofNat N)) ⟨fun hc311 => ?_, fun hc311 => ?_⟩)
  · have h312 := h.1 hc311
    refine wpl_sl (n := 2) (pc' := 8) (ls' := [some (.ref 0), some (.int a1)]) (st' := [.int a1, .ref 0]) rfl ?_
    refine wpl_lda rfl h312.1 ?_
    have h314 := h312.2
    refine wpl_sl (n := 1) (pc' := 13) (ls' := [some (.ref 0), some (.int a1)]) (st' := [.int (sg (ix a1))]) rfl ?_
    exact wpl_ret rfl rfl rfl ⟨(sg (ix a1)), rfl, h314⟩
  · have h313 := h.2 hc311
    refine wpl_sl (n := 1) (pc' := 13) (ls' := [some (.ref 0), some (.int a1)]) (st' := [.int (0 : Int32)]) rfl ?_
    exact wpl_ret rfl rfl rfl ⟨(0 : Int32), rfl, h313⟩
theorem l5r0W1_in (N : Nat) (sg : Nat → Int32)  (s : St) (Q : Int32 → Wd → Prop) (h : lalI PP QQ (some (N, sg)) 2 [.ref 0, .int (2 : Int32)] (W1 s) (fun v308 w307 => ∃ s310, w307 = W1 s310 ∧ (Q ((1 : Int32) + (v308 &&& (7 : Int32))) (W1 s310)))) : lalI PP QQ (some (N, sg)) 5 [.ref 0] (W1 s) Q := by
  refine lal_of (me := lm5) (ls := [some (.ref 0)]) rfl (Nat.le_of_ble_eq_true rfl) rfl ?_
  refine wpl_sl (n := 3) (pc' := 3) (ls' := [some (.ref 0)]) (st' := [.int (2 : Int32), .ref 0, .int (1 : Int32)]) rfl ?_
  refine wpl_stat (m' := 2) (me' := lm2) (as := [.ref 0, .int (2 : Int32)]) (r := [.int (1 : Int32)]) rfl rfl rfl rfl rfl ⟨(by first | decide | exact Nat.le_of_ble_eq_true rfl), (by first | decide | exact Nat.le_of_ble_eq_true rfl), (by first | decide | exact Nat.le_of_ble_eq_true rfl), (by first | decide | exact Nat.le_of_ble_eq_true rfl), rfl⟩ (lal_I (lalI.mono h fun v308 w307 hh => ?_))
  obtain ⟨s310, rfl, h309⟩ := hh
  refine wpl_sl (n := 3) (pc' := 10) (ls' := [some (.ref 0)]) (st' := [.int ((1 : Int32) + (v308 &&& (7 : Int32)))]) rfl ?_
  exact wpl_ret rfl rfl rfl ⟨((1 : Int32) + (v308 &&& (7 : Int32))), rfl, h309⟩
theorem l3r0W1_in (N : Nat) (sg : Nat → Int32)  (s : St) (Q : Int32 → Wd → Prop) (h : lalI PP QQ (some (N, sg)) 2 [.ref 0, .int (0 : Int32)] (W1 s) (fun v325 w324 => ∃ s327, w324 = W1 s327 ∧ (Q ((1 : Int32) + (v325 &&& (3 : Int32))) (W1 s327)))) : lalI PP QQ (some (N, sg)) 3 [.ref 0] (W1 s) Q := by
  refine lal_of (me := lm3) (ls := [some (.ref 0)]) rfl (Nat.le_of_ble_eq_true rfl) rfl ?_
  refine wpl_sl (n := 3) (pc' := 3) (ls' := [some (.ref 0)]) (st' := [.int (0 : Int32), .ref 0, .int (1 : Int32)]) rfl ?_
  refine wpl_stat (m' := 2) (me' := lm2) (as := [.ref 0, .int (0 : Int32)]) (r := [.int (1 : Int32)]) rfl rfl rfl rfl rfl ⟨(by first | decide | exact Nat.le_of_ble_eq_true rfl), (by first | decide | exact Nat.le_of_ble_eq_true rfl), (by first | decide | exact Nat.le_of_ble_eq_true rfl), (by first | decide | exact Nat.le_of_ble_eq_true rfl), rfl⟩ (lal_I (lalI.mono h fun v325 w324 hh => ?_))
  obtain ⟨s327, rfl, h326⟩ := hh
  refine wpl_sl (n := 3) (pc' := 9) (ls' := [some (.ref 0)]) (st' := [.int ((1 : Int32) + (v325 &&& (3 : Int32)))]) rfl ?_
  exact wpl_ret rfl rfl rfl ⟨((1 : Int32) + (v325 &&& (3 : Int32))), rfl, h326⟩
theorem l6r0W1_in (N : Nat) (sg : Nat → Int32) (a1 : Int32) (s : St) (Q : Int32 → Wd → Prop) (h : lalI PP QQ (some (N, sg)) 2 [.ref 0, .int ((3 : Int32) + ((8 : Int32) * a1))] (W1 s) (fun v316 w315 => ∃ s318, w315 = W1 s318 ∧ (lalI PP QQ (some (N, sg)) 3 [.ref 0] (W1 s318) (fun v320 w319 => ∃ s322, w319 = W1 s322 ∧ ((¬ (v320 = (0 : Int32))) ∧ Q ((v316 &&& (255 : Int32)) % v320) (W1 s322)))))) : lalI PP QQ (some (N, sg)) 6 [.ref 0, .int a1] (W1 s) Q := by
  refine lal_of (me := lm6) (ls := [some (.ref 0), some (.int a1)]) rfl (Nat.le_of_ble_eq_true rfl) rfl ?_
  refine wpl_sl (n := 6) (pc' := 7) (ls' := [some (.ref 0), some (.int a1)]) (st' := [.int ((3 : Int32) + ((8 : Int32) * a1)), .ref 0]) rfl ?_
  refine wpl_stat (m' := 2) (me' := lm2) (as := [.ref 0, .int ((3 : Int32) + ((8 : Int32) * a1))]) (r := []) rfl rfl rfl rfl rfl ⟨(by first | decide | exact Nat.le_of_ble_eq_true rfl), (by first | decide | exact Nat.le_of_ble_eq_true rfl), (by first | decide | exact Nat.le_of_ble_eq_true rfl), (by first | decide | exact Nat.le_of_ble_eq_true rfl), rfl⟩ (lal_I (lalI.mono h fun v316 w315 hh => ?_))
  obtain ⟨s318, rfl, h317⟩ := hh
  refine wpl_sl (n := 3) (pc' := 15) (ls' := [some (.ref 0), some (.int a1)]) (st' := [.ref 0, .int (v316 &&& (255 : Int32))]) rfl ?_
  refine wpl_stat (m' := 3) (me' := lm3) (as := [.ref 0]) (r := [.int (v316 &&& (255 : Int32))]) rfl rfl rfl rfl rfl ⟨(by first | decide | exact Nat.le_of_ble_eq_true rfl), (by first | decide | exact Nat.le_of_ble_eq_true rfl), (by first | decide | exact Nat.le_of_ble_eq_true rfl), (by first | decide | exact Nat.le_of_ble_eq_true rfl), rfl⟩ (lal_I (lalI.mono h317 fun v320 w319 hh => ?_))
  obtain ⟨s322, rfl, h321⟩ := hh
  refine wpl_irem rfl h321.1 ?_
  have h323 := h321.2
  exact wpl_ret rfl rfl rfl ⟨((v316 &&& (255 : Int32)) % v320), rfl, h323⟩
theorem c3_in (a1 : Int32) (s : St) (Q : Int32 → St → Prop) (h : (((gI s 0 24) = (0 : Int32)) → ((a1 < (0 : Int32)) → Q (-1 : Int32) s) ∧ (¬ (a1 < (0 : Int32)) → ((a1 < (gI s 0 15)) → (((gI s 0 17) < (16 : Int32)) → inb 16 (gI s 0 17) ∧ inb 16 (gI s 0 17) ∧ Q (gI s 0 17) (sI (sI (sI s 1 (ix (gI s 0 17)) a1) 2 (ix (gI s 0 17)) (0 : Int32)) 0 17 ((gI s 0 17) + (1 : Int32)))) ∧ (¬ ((gI s 0 17) < (16 : Int32)) → Q (-1 : Int32) s)) ∧ (¬ (a1 < (gI s 0 15)) → Q (-1 : Int32) s))) ∧ (¬ ((gI s 0 24) = (0 : Int32)) → Q (-1 : Int32) s)) : calI PP 3 14 [.ref 0, .int a1] s Q := by
  refine cal_of (me := cm3) (ls := [some (.ref 0), some (.int a1), none]) rfl (Nat.le_of_ble_eq_true rfl) rfl ?_
  refine wpc_sl (n := 2) (c' := 14) (pc' := 4) (ls' := [some (.ref 0), some (.int a1), none]) (st' := [.int (gI s 0 24)]) (s' := s) rfl ?_
  refine wpc_if (a := 9) (b := 7) rfl (by decide) rfl rfl (wpc_br (p := (gI s 0 24) = (0 : Int32)) ⟨fun hc328 => ?_, fun hc328 => ?_⟩)
  · have h329 := h.1 hc328
    refine wpc_sl (n := 1) (c' := 14) (pc' := 10) (ls' := [some (.ref 0), some (.int a1), none]) (st' := [.int a1]) (s' := s) rfl ?_
    refine wpc_if (a := 21) (b := 13) rfl (by decide) rfl rfl (wpc_br (p := a1 < (0 : Int32)) ⟨fun hc331 => ?_, fun hc331 => ?_⟩)
    · have h332 := h329.1 hc331
      refine wpc_sl (n := 1) (c' := 14) (pc' := 22) (ls' := [some (.ref 0), some (.int a1), none]) (st' := [.int (-1 : Int32)]) (s' := s) rfl ?_
      exact wpc_ret rfl rfl (fun q => absurd q (by decide)) rfl ⟨(-1 : Int32), rfl, h332⟩
    · have h333 := h329.2 hc331
      refine wpc_sl (n := 3) (c' := 14) (pc' := 18) (ls' := [some (.ref 0), some (.int a1), none]) (st' := [.int (gI s 0 15), .int a1]) (s' := s) rfl ?_
      refine wpc_icmp (a := 23) (b := 21) rfl (by decide) rfl rfl (wpc_br (p := a1 < (gI s 0 15)) ⟨fun hc334 => ?_, fun hc334 => ?_⟩)
      · have h335 := h333.1 hc334
        refine wpc_sl (n := 3) (c' := 14) (pc' := 29) (ls' := [some (.ref 0), some (.int a1), none]) (st' := [.int (16 : Int32), .int (gI s 0 17)]) (s' := s) rfl ?_
        refine wpc_icmp (a := 34) (b := 32) rfl (by decide) rfl rfl (wpc_br (p := (gI s 0 17) < (16 : Int32)) ⟨fun hc337 => ?_, fun hc337 => ?_⟩)
        · have h338 := h335.1 hc337
          refine wpc_sl (n := 5) (c' := 14) (pc' := 43) (ls' := [some (.ref 0), some (.int a1), none]) (st' := [.int a1, .int (gI s 0 17), .ref 1]) (s' := s) rfl ?_
          refine wpc_staI (a := 0) (N := 16) (s' := (sI s 1 (ix (gI s 0 17)) a1)) rfl rfl (by decide) h338.1 rfl ?_
          have h340 := h338.2
          refine wpc_sl (n := 5) (c' := 14) (pc' := 53) (ls' := [some (.ref 0), some (.int a1), none]) (st' := [.int (0 : Int32), .int (gI s 0 17), .ref 2]) (s' := (sI s 1 (ix (gI s 0 17)) a1)) rfl ?_
          refine wpc_staI (a := 1) (N := 16) (s' := (sI (sI s 1 (ix (gI s 0 17)) a1) 2 (ix (gI s 0 17)) (0 : Int32))) rfl rfl (by decide) h340.1 rfl ?_
          have h341 := h340.2
          refine wpc_sl (n := 9) (c' := 14) (pc' := 67) (ls' := [some (.ref 0), some (.int a1), some (.int (gI s 0 17))]) (st' := [.int (gI s 0 17)]) (s' := (sI (sI (sI s 1 (ix (gI s 0 17)) a1) 2 (ix (gI s 0 17)) (0 : Int32)) 0 17 ((gI s 0 17) + (1 : Int32)))) rfl ?_
          exact wpc_ret rfl rfl (fun q => absurd q (by decide)) rfl ⟨(gI s 0 17), rfl, h341⟩
        · have h339 := h335.2 hc337
          refine wpc_sl (n := 1) (c' := 14) (pc' := 33) (ls' := [some (.ref 0), some (.int a1), none]) (st' := [.int (-1 : Int32)]) (s' := s) rfl ?_
          exact wpc_ret rfl rfl (fun q => absurd q (by decide)) rfl ⟨(-1 : Int32), rfl, h339⟩
      · have h336 := h333.2 hc334
        refine wpc_sl (n := 1) (c' := 14) (pc' := 22) (ls' := [some (.ref 0), some (.int a1), none]) (st' := [.int (-1 : Int32)]) (s' := s) rfl ?_
        exact wpc_ret rfl rfl (fun q => absurd q (by decide)) rfl ⟨(-1 : Int32), rfl, h336⟩
  · have h330 := h.2 hc328
    refine wpc_sl (n := 1) (c' := 14) (pc' := 8) (ls' := [some (.ref 0), some (.int a1), none]) (st' := [.int (-1 : Int32)]) (s' := s) rfl ?_
    exact wpc_ret rfl rfl (fun q => absurd q (by decide)) rfl ⟨(-1 : Int32), rfl, h330⟩
theorem l7r0W1_in (N : Nat) (sg : Nat → Int32) (a1 : Int32) (s : St) (Q : Int32 → Wd → Prop) (h : lalI PP QQ (some (N, sg)) 2 [.ref 0, .int ((4 : Int32) + ((8 : Int32) * a1))] (W1 s) (fun v343 w342 => ∃ s345, w342 = W1 s345 ∧ (Q ((v343 &&& (255 : Int32)) % (5 : Int32)) (W1 s345)))) : lalI PP QQ (some (N, sg)) 7 [.ref 0, .int a1] (W1 s) Q := by
  refine lal_of (me := lm7) (ls := [some (.ref 0), some (.int a1)]) rfl (Nat.le_of_ble_eq_true rfl) rfl ?_
  refine wpl_sl (n := 6) (pc' := 7) (ls' := [some (.ref 0), some (.int a1)]) (st' := [.int ((4 : Int32) + ((8 : Int32) * a1)), .ref 0]) rfl ?_
  refine wpl_stat (m' := 2) (me' := lm2) (as := [.ref 0, .int ((4 : Int32) + ((8 : Int32) * a1))]) (r := []) rfl rfl rfl rfl rfl ⟨(by first | decide | exact Nat.le_of_ble_eq_true rfl), (by first | decide | exact Nat.le_of_ble_eq_true rfl), (by first | decide | exact Nat.le_of_ble_eq_true rfl), (by first | decide | exact Nat.le_of_ble_eq_true rfl), rfl⟩ (lal_I (lalI.mono h fun v343 w342 hh => ?_))
  obtain ⟨s345, rfl, h344⟩ := hh
  refine wpl_sl (n := 4) (pc' := 16) (ls' := [some (.ref 0), some (.int a1)]) (st' := [.int ((v343 &&& (255 : Int32)) % (5 : Int32))]) rfl ?_
  exact wpl_ret rfl rfl rfl ⟨((v343 &&& (255 : Int32)) % (5 : Int32)), rfl, h344⟩
theorem l4r0W1_in (N : Nat) (sg : Nat → Int32)  (s : St) (Q : Int32 → Wd → Prop) (h : lalI PP QQ (some (N, sg)) 2 [.ref 0, .int (1 : Int32)] (W1 s) (fun v364 w363 => ∃ s366, w363 = W1 s366 ∧ (Q ((1 : Int32) + (v364 &&& (3 : Int32))) (W1 s366)))) : lalI PP QQ (some (N, sg)) 4 [.ref 0] (W1 s) Q := by
  refine lal_of (me := lm4) (ls := [some (.ref 0)]) rfl (Nat.le_of_ble_eq_true rfl) rfl ?_
  refine wpl_sl (n := 3) (pc' := 3) (ls' := [some (.ref 0)]) (st' := [.int (1 : Int32), .ref 0, .int (1 : Int32)]) rfl ?_
  refine wpl_stat (m' := 2) (me' := lm2) (as := [.ref 0, .int (1 : Int32)]) (r := [.int (1 : Int32)]) rfl rfl rfl rfl rfl ⟨(by first | decide | exact Nat.le_of_ble_eq_true rfl), (by first | decide | exact Nat.le_of_ble_eq_true rfl), (by first | decide | exact Nat.le_of_ble_eq_true rfl), (by first | decide | exact Nat.le_of_ble_eq_true rfl), rfl⟩ (lal_I (lalI.mono h fun v364 w363 hh => ?_))
  obtain ⟨s366, rfl, h365⟩ := hh
  refine wpl_sl (n := 3) (pc' := 9) (ls' := [some (.ref 0)]) (st' := [.int ((1 : Int32) + (v364 &&& (3 : Int32)))]) rfl ?_
  exact wpl_ret rfl rfl rfl ⟨((1 : Int32) + (v364 &&& (3 : Int32))), rfl, h365⟩
theorem l8r0W1_in (N : Nat) (sg : Nat → Int32) (a1 : Int32) (a2 : Int32) (s : St) (Q : Int32 → Wd → Prop) (h : lalI PP QQ (some (N, sg)) 2 [.ref 0, .int (((5 : Int32) + ((8 : Int32) * a1)) + a2)] (W1 s) (fun v347 w346 => ∃ s349, w346 = W1 s349 ∧ (((((v347 &&& (65535 : Int32)) &&& (1 : Int32)) = (0 : Int32)) → lalI PP QQ (some (N, sg)) 4 [.ref 0] (W1 s349) (fun v354 w353 => ∃ s356, w353 = W1 s356 ∧ ((¬ (v354 = (0 : Int32))) ∧ Q ((1 : Int32) + ((XT.ushr (v347 &&& (65535 : Int32)) (1 : Int32)) % v354)) (W1 s356)))) ∧ (¬ (((v347 &&& (65535 : Int32)) &&& (1 : Int32)) = (0 : Int32)) → lalI PP QQ (some (N, sg)) 3 [.ref 0] (W1 s349) (fun v359 w358 => ∃ s361, w358 = W1 s361 ∧ ((¬ (v359 = (0 : Int32))) ∧ Q ((16 : Int32) + ((XT.ushr (v347 &&& (65535 : Int32)) (1 : Int32)) % v359)) (W1 s361))))))) : lalI PP QQ (some (N, sg)) 8 [.ref 0, .int a1, .int a2] (W1 s) Q := by
  refine lal_of (me := lm8) (ls := [some (.ref 0), some (.int a1), some (.int a2), none]) rfl (Nat.le_of_ble_eq_true rfl) rfl ?_
  refine wpl_sl (n := 8) (pc' := 9) (ls' := [some (.ref 0), some (.int a1), some (.int a2), none]) (st' := [.int (((5 : Int32) + ((8 : Int32) * a1)) + a2), .ref 0]) rfl ?_
  refine wpl_stat (m' := 2) (me' := lm2) (as := [.ref 0, .int (((5 : Int32) + ((8 : Int32) * a1)) + a2)]) (r := []) rfl rfl rfl rfl rfl ⟨(by first | decide | exact Nat.le_of_ble_eq_true rfl), (by first | decide | exact Nat.le_of_ble_eq_true rfl), (by first | decide | exact Nat.le_of_ble_eq_true rfl), (by first | decide | exact Nat.le_of_ble_eq_true rfl), rfl⟩ (lal_I (lalI.mono h fun v347 w346 hh => ?_))
  obtain ⟨s349, rfl, h348⟩ := hh
  refine wpl_sl (n := 6) (pc' := 19) (ls' := [some (.ref 0), some (.int a1), some (.int a2), some (.int (v347 &&& (65535 : Int32)))]) (st' := [.int ((v347 &&& (65535 : Int32)) &&& (1 : Int32))]) rfl ?_
  refine wpl_if (a := 33) (b := 22) rfl (by decide) rfl rfl (wpl_br (p := ((v347 &&& (65535 : Int32)) &&& (1 : Int32)) = (0 : Int32)) ⟨fun hc350 => ?_, fun hc350 => ?_⟩)
  · have h351 := h348.1 hc350
    refine wpl_sl (n := 5) (pc' := 27) (ls' := [some (.ref 0), some (.int a1), some (.int a2), some (.int (v347 &&& (65535 : Int32)))]) (st' := [.ref 0, .int (XT.ushr (v347 &&& (65535 : Int32)) (1 : Int32)), .int (1 : Int32)]) rfl ?_
    refine wpl_stat (m' := 4) (me' := lm4) (as := [.ref 0]) (r := [.int (XT.ushr (v347 &&& (65535 : Int32)) (1 : Int32)), .int (1 : Int32)]) rfl rfl rfl rfl rfl ⟨(by first | decide | exact Nat.le_of_ble_eq_true rfl), (by first | decide | exact Nat.le_of_ble_eq_true rfl), (by first | decide | exact Nat.le_of_ble_eq_true rfl), (by first | decide | exact Nat.le_of_ble_eq_true rfl), rfl⟩ (lal_I (lalI.mono h351 fun v354 w353 hh => ?_))
    obtain ⟨s356, rfl, h355⟩ := hh
    refine wpl_irem rfl h355.1 ?_
    have h357 := h355.2
    refine wpl_sl (n := 1) (pc' := 32) (ls' := [some (.ref 0), some (.int a1), some (.int a2), some (.int (v347 &&& (65535 : Int32)))]) (st' := [.int ((1 : Int32) + ((XT.ushr (v347 &&& (65535 : Int32)) (1 : Int32)) % v354))]) rfl ?_
    exact wpl_ret rfl rfl rfl ⟨((1 : Int32) + ((XT.ushr (v347 &&& (65535 : Int32)) (1 : Int32)) % v354)), rfl, h357⟩
  · have h352 := h348.2 hc350
    refine wpl_sl (n := 5) (pc' := 39) (ls' := [some (.ref 0), some (.int a1), some (.int a2), some (.int (v347 &&& (65535 : Int32)))]) (st' := [.ref 0, .int (XT.ushr (v347 &&& (65535 : Int32)) (1 : Int32)), .int (16 : Int32)]) rfl ?_
    refine wpl_stat (m' := 3) (me' := lm3) (as := [.ref 0]) (r := [.int (XT.ushr (v347 &&& (65535 : Int32)) (1 : Int32)), .int (16 : Int32)]) rfl rfl rfl rfl rfl ⟨(by first | decide | exact Nat.le_of_ble_eq_true rfl), (by first | decide | exact Nat.le_of_ble_eq_true rfl), (by first | decide | exact Nat.le_of_ble_eq_true rfl), (by first | decide | exact Nat.le_of_ble_eq_true rfl), rfl⟩ (lal_I (lalI.mono h352 fun v359 w358 hh => ?_))
    obtain ⟨s361, rfl, h360⟩ := hh
    refine wpl_irem rfl h360.1 ?_
    have h362 := h360.2
    refine wpl_sl (n := 1) (pc' := 44) (ls' := [some (.ref 0), some (.int a1), some (.int a2), some (.int (v347 &&& (65535 : Int32)))]) (st' := [.int ((16 : Int32) + ((XT.ushr (v347 &&& (65535 : Int32)) (1 : Int32)) % v359))]) rfl ?_
    exact wpl_ret rfl rfl rfl ⟨((16 : Int32) + ((XT.ushr (v347 &&& (65535 : Int32)) (1 : Int32)) % v359)), rfl, h362⟩
theorem c5_in (a1 : Int32) (s : St) (Q : Int32 → St → Prop) (h : ((a1 < (1 : Int32)) → wpcI PP 5 cm5 14 15 [some (.ref 0), some (.int a1)] [] s Q) ∧ (¬ (a1 < (1 : Int32)) → (((gI s 0 16) < a1) → wpcI PP 5 cm5 14 15 [some (.ref 0), some (.int a1)] [] s Q) ∧ (¬ ((gI s 0 16) < a1) → Q (1 : Int32) s))) : calI PP 5 14 [.ref 0, .int a1] s Q := by
  refine cal_of (me := cm5) (ls := [some (.ref 0), some (.int a1)]) rfl (Nat.le_of_ble_eq_true rfl) rfl ?_
  refine wpc_sl (n := 2) (c' := 14) (pc' := 2) (ls' := [some (.ref 0), some (.int a1)]) (st' := [.int (1 : Int32), .int a1]) (s' := s) rfl ?_
  refine wpc_icmp (a := 15) (b := 5) rfl (by decide) rfl rfl (wpc_br (p := a1 < (1 : Int32)) ⟨fun hc387 => ?_, fun hc387 => ?_⟩)
  · have h388 := h.1 hc387
    exact h388
  · have h389 := h.2 hc387
    refine wpc_sl (n := 3) (c' := 14) (pc' := 10) (ls' := [some (.ref 0), some (.int a1)]) (st' := [.int (gI s 0 16), .int a1]) (s' := s) rfl ?_
    refine wpc_icmp (a := 15) (b := 13) rfl (by decide) rfl rfl (wpc_br (p := (gI s 0 16) < a1) ⟨fun hc390 => ?_, fun hc390 => ?_⟩)
    · have h391 := h389.1 hc390
      exact h391
    · have h392 := h389.2 hc390
      refine wpc_sl (n := 1) (c' := 14) (pc' := 14) (ls' := [some (.ref 0), some (.int a1)]) (st' := [.int (1 : Int32)]) (s' := s) rfl ?_
      exact wpc_ret rfl rfl (fun q => absurd q (by decide)) rfl ⟨(1 : Int32), rfl, h392⟩
theorem c5_15 (x1 : Int32) (s : St) (Q : Int32 → St → Prop) (h : ((x1 < (16 : Int32)) → Q (0 : Int32) s) ∧ (¬ (x1 < (16 : Int32)) → ((x1 < ((16 : Int32) + (gI s 0 15))) → Q (1 : Int32) s) ∧ (¬ (x1 < ((16 : Int32) + (gI s 0 15))) → Q (0 : Int32) s))) : wpcI PP 5 cm5 14 15 [some (.ref 0), some (.int x1)] [] s Q := by
  refine wpc_sl (n := 2) (c' := 14) (pc' := 18) (ls' := [some (.ref 0), some (.int x1)]) (st' := [.int (16 : Int32), .int x1]) (s' := s) rfl ?_
  refine wpc_icmp (a := 36) (b := 21) rfl (by decide) rfl rfl (wpc_br (p := x1 < (16 : Int32)) ⟨fun hc393 => ?_, fun hc393 => ?_⟩)
  · have h394 := h.1 hc393
    refine wpc_sl (n := 1) (c' := 14) (pc' := 37) (ls' := [some (.ref 0), some (.int x1)]) (st' := [.int (0 : Int32)]) (s' := s) rfl ?_
    exact wpc_ret rfl rfl (fun q => absurd q (by decide)) rfl ⟨(0 : Int32), rfl, h394⟩
  · have h395 := h.2 hc393
    refine wpc_sl (n := 5) (c' := 14) (pc' := 29) (ls' := [some (.ref 0), some (.int x1)]) (st' := [.int ((16 : Int32) + (gI s 0 15)), .int x1]) (s' := s) rfl ?_
    refine wpc_icmp (a := 36) (b := 32) rfl (by decide) rfl rfl (wpc_br (p := x1 < ((16 : Int32) + (gI s 0 15))) ⟨fun hc396 => ?_, fun hc396 => ?_⟩)
    · have h397 := h395.1 hc396
      refine wpc_sl (n := 2) (c' := 14) (pc' := 37) (ls' := [some (.ref 0), some (.int x1)]) (st' := [.int (1 : Int32)]) (s' := s) rfl ?_
      exact wpc_ret rfl rfl (fun q => absurd q (by decide)) rfl ⟨(1 : Int32), rfl, h397⟩
    · have h398 := h395.2 hc396
      refine wpc_sl (n := 1) (c' := 14) (pc' := 37) (ls' := [some (.ref 0), some (.int x1)]) (st' := [.int (0 : Int32)]) (s' := s) rfl ?_
      exact wpc_ret rfl rfl (fun q => absurd q (by decide)) rfl ⟨(0 : Int32), rfl, h398⟩
theorem c4_in (a1 : Int32) (s : St) (Q : Int32 → St → Prop) (h : (((gI s 0 24) = (0 : Int32)) → (((gI s 0 17) = (0 : Int32)) → Q (0 : Int32) s) ∧ (¬ ((gI s 0 17) = (0 : Int32)) → inb 16 ((gI s 0 17) - (1 : Int32)) ∧ (((gI s 2 (ix ((gI s 0 17) - (1 : Int32)))) < (6 : Int32)) → calI PP 5 14 [.ref 0, .int a1] s (fun v378 s377 => ((v378 = (0 : Int32)) → Q (0 : Int32) s377) ∧ (¬ (v378 = (0 : Int32)) → inb 16 ((gI s 0 17) - (1 : Int32)) ∧ inb 96 ((((gI s 0 17) - (1 : Int32)) * (6 : Int32)) + (gI s377 2 (ix ((gI s 0 17) - (1 : Int32))))) ∧ inb 16 ((gI s 0 17) - (1 : Int32)) ∧ inb 16 ((gI s 0 17) - (1 : Int32)) ∧ Q (1 : Int32) (sI (sI s377 3 (ix ((((gI s 0 17) - (1 : Int32)) * (6 : Int32)) + (gI s377 2 (ix ((gI s 0 17) - (1 : Int32)))))) a1) 2 (ix ((gI s 0 17) - (1 : Int32))) ((gI s377 2 (ix ((gI s 0 17) - (1 : Int32)))) + (1 : Int32)))))) ∧ (¬ ((gI s 2 (ix ((gI s 0 17) - (1 : Int32)))) < (6 : Int32)) → Q (0 : Int32) s))) ∧ (¬ ((gI s 0 24) = (0 : Int32)) → Q (0 : Int32) s)) : calI PP 4 14 [.ref 0, .int a1] s Q := by
  refine cal_of (me := cm4) (ls := [some (.ref 0), some (.int a1), none]) rfl (Nat.le_of_ble_eq_true rfl) rfl ?_
  refine wpc_sl (n := 2) (c' := 14) (pc' := 4) (ls' := [some (.ref 0), some (.int a1), none]) (st' := [.int (gI s 0 24)]) (s' := s) rfl ?_
  refine wpc_if (a := 14) (b := 7) rfl (by decide) rfl rfl (wpc_br (p := (gI s 0 24) = (0 : Int32)) ⟨fun hc367 => ?_, fun hc367 => ?_⟩)
  · have h368 := h.1 hc367
    refine wpc_sl (n := 2) (c' := 14) (pc' := 11) (ls' := [some (.ref 0), some (.int a1), none]) (st' := [.int (gI s 0 17)]) (s' := s) rfl ?_
    refine wpc_if (a := 16) (b := 14) rfl (by decide) rfl rfl (wpc_br (p := (gI s 0 17) = (0 : Int32)) ⟨fun hc370 => ?_, fun hc370 => ?_⟩)
    · have h371 := h368.1 hc370
      refine wpc_sl (n := 1) (c' := 14) (pc' := 15) (ls' := [some (.ref 0), some (.int a1), none]) (st' := [.int (0 : Int32)]) (s' := s) rfl ?_
      exact wpc_ret rfl rfl (fun q => absurd q (by decide)) rfl ⟨(0 : Int32), rfl, h371⟩
    · have h372 := h368.2 hc370
      refine wpc_sl (n := 8) (c' := 14) (pc' := 28) (ls' := [some (.ref 0), some (.int a1), some (.int ((gI s 0 17) - (1 : Int32)))]) (st' := [.int ((gI s 0 17) - (1 : Int32)), .ref 2]) (s' := s) rfl ?_
      refine wpc_ldaI (a := 1) (N := 16) (v := (gI s 2 (ix ((gI s 0 17) - (1 : Int32))))) rfl rfl (by decide) h372.1 rfl ?_
      have h373 := h372.2
      refine wpc_sl (n := 1) (c' := 14) (pc' := 31) (ls' := [some (.ref 0), some (.int a1), some (.int ((gI s 0 17) - (1 : Int32)))]) (st' := [.int (6 : Int32), .int (gI s 2 (ix ((gI s 0 17) - (1 : Int32))))]) (s' := s) rfl ?_
      refine wpc_icmp (a := 36) (b := 34) rfl (by decide) rfl rfl (wpc_br (p := (gI s 2 (ix ((gI s 0 17) - (1 : Int32)))) < (6 : Int32)) ⟨fun hc374 => ?_, fun hc374 => ?_⟩)
      · have h375 := h373.1 hc374
        refine wpc_sl (n := 2) (c' := 14) (pc' := 38) (ls' := [some (.ref 0), some (.int a1), some (.int ((gI s 0 17) - (1 : Int32)))]) (st' := [.int a1, .ref 0]) (s' := s) rfl ?_
        refine wpc_callI (m' := 5) (me' := cm5) (as := [.int a1]) (r := []) rfl rfl rfl rfl rfl ⟨by decide, (by first | decide | exact Nat.le_of_ble_eq_true rfl), (by first | decide | exact Nat.le_of_ble_eq_true rfl), rfl⟩ (calI.mono h375 fun v378 s377 h379 => ?_)
        refine wpc_if (a := 46) (b := 44) rfl (by decide) rfl rfl (wpc_br (p := v378 = (0 : Int32)) ⟨fun hc380 => ?_, fun hc380 => ?_⟩)
        · have h381 := h379.1 hc380
          refine wpc_sl (n := 1) (c' := 14) (pc' := 45) (ls' := [some (.ref 0), some (.int a1), some (.int ((gI s 0 17) - (1 : Int32)))]) (st' := [.int (0 : Int32)]) (s' := s377) rfl ?_
          exact wpc_ret rfl rfl (fun q => absurd q (by decide)) rfl ⟨(0 : Int32), rfl, h381⟩
        · have h382 := h379.2 hc380
          refine wpc_sl (n := 8) (c' := 14) (pc' := 59) (ls' := [some (.ref 0), some (.int a1), some (.int ((gI s 0 17) - (1 : Int32)))]) (st' := [.int ((gI s 0 17) - (1 : Int32)), .ref 2, .int (((gI s 0 17) - (1 : Int32)) * (6 : Int32)), .ref 3]) (s' := s377) rfl ?_
          refine wpc_ldaI (a := 1) (N := 16) (v := (gI s377 2 (ix ((gI s 0 17) - (1 : Int32))))) rfl rfl (by decide) h382.1 rfl ?_
          have h383 := h382.2
          refine wpc_sl (n := 2) (c' := 14) (pc' := 62) (ls' := [some (.ref 0), some (.int a1), some (.int ((gI s 0 17) - (1 : Int32)))]) (st' := [.int a1, .int ((((gI s 0 17) - (1 : Int32)) * (6 : Int32)) + (gI s377 2 (ix ((gI s 0 17) - (1 : Int32))))), .ref 3]) (s' := s377) rfl ?_
          refine wpc_staI (a := 2) (N := 96) (s' := (sI s377 3 (ix ((((gI s 0 17) - (1 : Int32)) * (6 : Int32)) + (gI s377 2 (ix ((gI s 0 17) - (1 : Int32)))))) a1)) rfl rfl (by decide) h383.1 rfl ?_
          have h384 := h383.2
          refine wpc_sl (n := 6) (c' := 14) (pc' := 73) (ls' := [some (.ref 0), some (.int a1), some (.int ((gI s 0 17) - (1 : Int32)))]) (st' := [.int ((gI s 0 17) - (1 : Int32)), .ref 2, .int ((gI s 0 17) - (1 : Int32)), .ref 2]) (s' := (sI s377 3 (ix ((((gI s 0 17) - (1 : Int32)) * (6 : Int32)) + (gI s377 2 (ix ((gI s 0 17) - (1 : Int32)))))) a1)) rfl ?_
          refine wpc_ldaI (a := 1) (N := 16) (v := (gI s377 2 (ix ((gI s 0 17) - (1 : Int32))))) rfl rfl (by decide) h384.1 rfl ?_
          have h385 := h384.2
          refine wpc_sl (n := 2) (c' := 14) (pc' := 76) (ls' := [some (.ref 0), some (.int a1), some (.int ((gI s 0 17) - (1 : Int32)))]) (st' := [.int ((gI s377 2 (ix ((gI s 0 17) - (1 : Int32)))) + (1 : Int32)), .int ((gI s 0 17) - (1 : Int32)), .ref 2]) (s' := (sI s377 3 (ix ((((gI s 0 17) - (1 : Int32)) * (6 : Int32)) + (gI s377 2 (ix ((gI s 0 17) - (1 : Int32)))))) a1)) rfl ?_
          refine wpc_staI (a := 1) (N := 16) (s' := (sI (sI s377 3 (ix ((((gI s 0 17) - (1 : Int32)) * (6 : Int32)) + (gI s377 2 (ix ((gI s 0 17) - (1 : Int32)))))) a1) 2 (ix ((gI s 0 17) - (1 : Int32))) ((gI s377 2 (ix ((gI s 0 17) - (1 : Int32)))) + (1 : Int32)))) rfl rfl (by decide) h385.1 rfl ?_
          have h386 := h385.2
          refine wpc_sl (n := 1) (c' := 14) (pc' := 78) (ls' := [some (.ref 0), some (.int a1), some (.int ((gI s 0 17) - (1 : Int32)))]) (st' := [.int (1 : Int32)]) (s' := (sI (sI s377 3 (ix ((((gI s 0 17) - (1 : Int32)) * (6 : Int32)) + (gI s377 2 (ix ((gI s 0 17) - (1 : Int32)))))) a1) 2 (ix ((gI s 0 17) - (1 : Int32))) ((gI s377 2 (ix ((gI s 0 17) - (1 : Int32)))) + (1 : Int32)))) rfl ?_
          exact wpc_ret rfl rfl (fun q => absurd q (by decide)) rfl ⟨(1 : Int32), rfl, h386⟩
      · have h376 := h373.2 hc374
        refine wpc_sl (n := 1) (c' := 14) (pc' := 35) (ls' := [some (.ref 0), some (.int a1), some (.int ((gI s 0 17) - (1 : Int32)))]) (st' := [.int (0 : Int32)]) (s' := s) rfl ?_
        exact wpc_ret rfl rfl (fun q => absurd q (by decide)) rfl ⟨(0 : Int32), rfl, h376⟩
  · have h369 := h.2 hc367
    refine wpc_sl (n := 1) (c' := 14) (pc' := 15) (ls' := [some (.ref 0), some (.int a1), none]) (st' := [.int (0 : Int32)]) (s' := s) rfl ?_
    exact wpc_ret rfl rfl (fun q => absurd q (by decide)) rfl ⟨(0 : Int32), rfl, h369⟩
theorem l9r0W1_in (N : Nat) (sg : Nat → Int32) (a1 : Int32) (s : St) (Q : Int32 → Wd → Prop) (h : lalI PP QQ (some (N, sg)) 2 [.ref 0, .int ((68 : Int32) + a1)] (W1 s) (fun v400 w399 => ∃ s402, w399 = W1 s402 ∧ (lalI PP QQ (some (N, sg)) 4 [.ref 0] (W1 s402) (fun v404 w403 => ∃ s406, w403 = W1 s406 ∧ ((¬ (v404 = (0 : Int32))) ∧ Q ((1 : Int32) + ((v400 &&& (255 : Int32)) % v404)) (W1 s406)))))) : lalI PP QQ (some (N, sg)) 9 [.ref 0, .int a1] (W1 s) Q := by
  refine lal_of (me := lm9) (ls := [some (.ref 0), some (.int a1)]) rfl (Nat.le_of_ble_eq_true rfl) rfl ?_
  refine wpl_sl (n := 5) (pc' := 6) (ls' := [some (.ref 0), some (.int a1)]) (st' := [.int ((68 : Int32) + a1), .ref 0, .int (1 : Int32)]) rfl ?_
  refine wpl_stat (m' := 2) (me' := lm2) (as := [.ref 0, .int ((68 : Int32) + a1)]) (r := [.int (1 : Int32)]) rfl rfl rfl rfl rfl ⟨(by first | decide | exact Nat.le_of_ble_eq_true rfl), (by first | decide | exact Nat.le_of_ble_eq_true rfl), (by first | decide | exact Nat.le_of_ble_eq_true rfl), (by first | decide | exact Nat.le_of_ble_eq_true rfl), rfl⟩ (lal_I (lalI.mono h fun v400 w399 hh => ?_))
  obtain ⟨s402, rfl, h401⟩ := hh
  refine wpl_sl (n := 3) (pc' := 14) (ls' := [some (.ref 0), some (.int a1)]) (st' := [.ref 0, .int (v400 &&& (255 : Int32)), .int (1 : Int32)]) rfl ?_
  refine wpl_stat (m' := 4) (me' := lm4) (as := [.ref 0]) (r := [.int (v400 &&& (255 : Int32)), .int (1 : Int32)]) rfl rfl rfl rfl rfl ⟨(by first | decide | exact Nat.le_of_ble_eq_true rfl), (by first | decide | exact Nat.le_of_ble_eq_true rfl), (by first | decide | exact Nat.le_of_ble_eq_true rfl), (by first | decide | exact Nat.le_of_ble_eq_true rfl), rfl⟩ (lal_I (lalI.mono h401 fun v404 w403 hh => ?_))
  obtain ⟨s406, rfl, h405⟩ := hh
  refine wpl_irem rfl h405.1 ?_
  have h407 := h405.2
  refine wpl_sl (n := 1) (pc' := 19) (ls' := [some (.ref 0), some (.int a1)]) (st' := [.int ((1 : Int32) + ((v400 &&& (255 : Int32)) % v404))]) rfl ?_
  exact wpl_ret rfl rfl rfl ⟨((1 : Int32) + ((v400 &&& (255 : Int32)) % v404)), rfl, h407⟩
theorem c21_in (a1 : Int32) (s : St) (Q : Int32 → St → Prop) (h : (((gI s 0 25) = (0 : Int32)) → (((gI s 0 18) < (32 : Int32)) → ((a1 < (1 : Int32)) → Q (0 : Int32) s) ∧ (¬ (a1 < (1 : Int32)) → (((gI s 0 16) < a1) → Q (0 : Int32) s) ∧ (¬ ((gI s 0 16) < a1) → inb 32 (gI s 0 18) ∧ Q (1 : Int32) (sI (sI s 9 (ix (gI s 0 18)) a1) 0 18 ((gI s 0 18) + (1 : Int32)))))) ∧ (¬ ((gI s 0 18) < (32 : Int32)) → Q (0 : Int32) s)) ∧ (¬ ((gI s 0 25) = (0 : Int32)) → Q (0 : Int32) s)) : calI PP 21 14 [.ref 0, .int a1] s Q := by
  refine cal_of (me := cm21) (ls := [some (.ref 0), some (.int a1)]) rfl (Nat.le_of_ble_eq_true rfl) rfl ?_
  refine wpc_sl (n := 2) (c' := 14) (pc' := 4) (ls' := [some (.ref 0), some (.int a1)]) (st' := [.int (gI s 0 25)]) (s' := s) rfl ?_
  refine wpc_if (a := 16) (b := 7) rfl (by decide) rfl rfl (wpc_br (p := (gI s 0 25) = (0 : Int32)) ⟨fun hc408 => ?_, fun hc408 => ?_⟩)
  · have h409 := h.1 hc408
    refine wpc_sl (n := 3) (c' := 14) (pc' := 13) (ls' := [some (.ref 0), some (.int a1)]) (st' := [.int (32 : Int32), .int (gI s 0 18)]) (s' := s) rfl ?_
    refine wpc_icmp (a := 18) (b := 16) rfl (by decide) rfl rfl (wpc_br (p := (gI s 0 18) < (32 : Int32)) ⟨fun hc411 => ?_, fun hc411 => ?_⟩)
    · have h412 := h409.1 hc411
      refine wpc_sl (n := 2) (c' := 14) (pc' := 20) (ls' := [some (.ref 0), some (.int a1)]) (st' := [.int (1 : Int32), .int a1]) (s' := s) rfl ?_
      refine wpc_icmp (a := 31) (b := 23) rfl (by decide) rfl rfl (wpc_br (p := a1 < (1 : Int32)) ⟨fun hc414 => ?_, fun hc414 => ?_⟩)
      · have h415 := h412.1 hc414
        refine wpc_sl (n := 1) (c' := 14) (pc' := 32) (ls' := [some (.ref 0), some (.int a1)]) (st' := [.int (0 : Int32)]) (s' := s) rfl ?_
        exact wpc_ret rfl rfl (fun q => absurd q (by decide)) rfl ⟨(0 : Int32), rfl, h415⟩
      · have h416 := h412.2 hc414
        refine wpc_sl (n := 3) (c' := 14) (pc' := 28) (ls' := [some (.ref 0), some (.int a1)]) (st' := [.int (gI s 0 16), .int a1]) (s' := s) rfl ?_
        refine wpc_icmp (a := 33) (b := 31) rfl (by decide) rfl rfl (wpc_br (p := (gI s 0 16) < a1) ⟨fun hc417 => ?_, fun hc417 => ?_⟩)
        · have h418 := h416.1 hc417
          refine wpc_sl (n := 1) (c' := 14) (pc' := 32) (ls' := [some (.ref 0), some (.int a1)]) (st' := [.int (0 : Int32)]) (s' := s) rfl ?_
          exact wpc_ret rfl rfl (fun q => absurd q (by decide)) rfl ⟨(0 : Int32), rfl, h418⟩
        · have h419 := h416.2 hc417
          refine wpc_sl (n := 5) (c' := 14) (pc' := 42) (ls' := [some (.ref 0), some (.int a1)]) (st' := [.int a1, .int (gI s 0 18), .ref 9]) (s' := s) rfl ?_
          refine wpc_staI (a := 8) (N := 32) (s' := (sI s 9 (ix (gI s 0 18)) a1)) rfl rfl (by decide) h419.1 rfl ?_
          have h420 := h419.2
          refine wpc_sl (n := 7) (c' := 14) (pc' := 54) (ls' := [some (.ref 0), some (.int a1)]) (st' := [.int (1 : Int32)]) (s' := (sI (sI s 9 (ix (gI s 0 18)) a1) 0 18 ((gI s 0 18) + (1 : Int32)))) rfl ?_
          exact wpc_ret rfl rfl (fun q => absurd q (by decide)) rfl ⟨(1 : Int32), rfl, h420⟩
    · have h413 := h409.2 hc411
      refine wpc_sl (n := 1) (c' := 14) (pc' := 17) (ls' := [some (.ref 0), some (.int a1)]) (st' := [.int (0 : Int32)]) (s' := s) rfl ?_
      exact wpc_ret rfl rfl (fun q => absurd q (by decide)) rfl ⟨(0 : Int32), rfl, h413⟩
  · have h410 := h.2 hc408
    refine wpc_sl (n := 1) (c' := 14) (pc' := 17) (ls' := [some (.ref 0), some (.int a1)]) (st' := [.int (0 : Int32)]) (s' := s) rfl ?_
    exact wpc_ret rfl rfl (fun q => absurd q (by decide)) rfl ⟨(0 : Int32), rfl, h410⟩
theorem c7_in (a1 : Int32) (a2 : Int32) (s : St) (Q : Int32 → St → Prop) (h : inb 16 a1 ∧ wpcI PP 7 cm7 14 10 [some (.ref 0), some (.int a1), none, some (.int (gI s 2 (ix a1))), some (.int a2), none] [] s Q) : calI PP 7 14 [.ref 0, .int a1, .int a2] s Q := by
  refine cal_of (me := cm7) (ls := [some (.ref 0), some (.int a1), some (.int a2), none, none, none]) rfl (Nat.le_of_ble_eq_true rfl) rfl ?_
  refine wpc_sl (n := 3) (c' := 14) (pc' := 5) (ls' := [some (.ref 0), some (.int a1), some (.int a2), none, none, none]) (st' := [.int a1, .ref 2]) (s' := s) rfl ?_
  refine wpc_ldaI (a := 1) (N := 16) (v := (gI s 2 (ix a1))) rfl rfl (by decide) h.1 rfl ?_
  have h470 := h.2
  refine wpc_sl (n := 3) (c' := 14) (pc' := 10) (ls' := [some (.ref 0), some (.int a1), some (.int a2), some (.int (gI s 2 (ix a1))), some (.int a2), none]) (st' := []) (s' := s) rfl ?_
  exact wpc_lle (ls := [some (.ref 0), some (.int a1), none, some (.int (gI s 2 (ix a1))), some (.int a2), none]) ⟨rfl, rfl, rfl, rfl, trivial⟩ h470
theorem c7_10 (x1 : Int32) (x3 : Int32) (x4 : Int32) (s : St) (Q : Int32 → St → Prop) (h : ((x4 < x3) → inb 96 ((x1 * (6 : Int32)) + x4) ∧ (((gI s 3 (ix ((x1 * (6 : Int32)) + x4))) < (16 : Int32)) → Q (0 : Int32) s) ∧ (¬ ((gI s 3 (ix ((x1 * (6 : Int32)) + x4))) < (16 : Int32)) → inb 8 ((gI s 3 (ix ((x1 * (6 : Int32)) + x4))) - (16 : Int32)) ∧ (((gI s 4 (ix ((gI s 3 (ix ((x1 * (6 : Int32)) + x4))) - (16 : Int32)))) = (0 : Int32)) → Q (0 : Int32) s) ∧ (¬ ((gI s 4 (ix ((gI s 3 (ix ((x1 * (6 : Int32)) + x4))) - (16 : Int32)))) = (0 : Int32)) → wpcI PP 7 cm7 14 10 [some (.ref 0), some (.int x1), none, some (.int x3), some (.int (x4 + (1 : Int32))), none] [] s Q))) ∧ (¬ (x4 < x3) → Q (1 : Int32) s)) : wpcI PP 7 cm7 14 10 [some (.ref 0), some (.int x1), none, some (.int x3), some (.int x4), none] [] s Q := by
  refine wpc_sl (n := 2) (c' := 14) (pc' := 13) (ls' := [some (.ref 0), some (.int x1), none, some (.int x3), some (.int x4), none]) (st' := [.int x3, .int x4]) (s' := s) rfl ?_
  refine wpc_icmp (a := 60) (b := 16) rfl (by decide) rfl rfl (wpc_br (p := x4 < x3) ⟨fun hc471 => ?_, fun hc471 => ?_⟩)
  · have h472 := h.1 hc471
    refine wpc_sl (n := 7) (c' := 14) (pc' := 27) (ls' := [some (.ref 0), some (.int x1), none, some (.int x3), some (.int x4), none]) (st' := [.int ((x1 * (6 : Int32)) + x4), .ref 3]) (s' := s) rfl ?_
    refine wpc_ldaI (a := 2) (N := 96) (v := (gI s 3 (ix ((x1 * (6 : Int32)) + x4)))) rfl rfl (by decide) h472.1 rfl ?_
    have h474 := h472.2
    refine wpc_sl (n := 3) (c' := 14) (pc' := 34) (ls' := [some (.ref 0), some (.int x1), none, some (.int x3), some (.int x4), some (.int (gI s 3 (ix ((x1 * (6 : Int32)) + x4))))]) (st' := [.int (16 : Int32), .int (gI s 3 (ix ((x1 * (6 : Int32)) + x4)))]) (s' := s) rfl ?_
    refine wpc_icmp (a := 39) (b := 37) rfl (by decide) rfl rfl (wpc_br (p := (gI s 3 (ix ((x1 * (6 : Int32)) + x4))) < (16 : Int32)) ⟨fun hc475 => ?_, fun hc475 => ?_⟩)
    · have h476 := h474.1 hc475
      refine wpc_sl (n := 1) (c' := 14) (pc' := 38) (ls' := [some (.ref 0), some (.int x1), none, some (.int x3), some (.int x4), some (.int (gI s 3 (ix ((x1 * (6 : Int32)) + x4))))]) (st' := [.int (0 : Int32)]) (s' := s) rfl ?_
      exact wpc_ret rfl rfl (fun q => absurd q (by decide)) rfl ⟨(0 : Int32), rfl, h476⟩
    · have h477 := h474.2 hc475
      refine wpc_sl (n := 5) (c' := 14) (pc' := 48) (ls' := [some (.ref 0), some (.int x1), none, some (.int x3), some (.int x4), some (.int (gI s 3 (ix ((x1 * (6 : Int32)) + x4))))]) (st' := [.int ((gI s 3 (ix ((x1 * (6 : Int32)) + x4))) - (16 : Int32)), .ref 4]) (s' := s) rfl ?_
      refine wpc_ldaZ (a := 3) (N := 8) (v := (gI s 4 (ix ((gI s 3 (ix ((x1 * (6 : Int32)) + x4))) - (16 : Int32))))) rfl rfl (by decide) h477.1 rfl ?_
      have h478 := h477.2
      refine wpc_if (a := 54) (b := 52) rfl (by decide) rfl rfl (wpc_br (p := (gI s 4 (ix ((gI s 3 (ix ((x1 * (6 : Int32)) + x4))) - (16 : Int32)))) = (0 : Int32)) ⟨fun hc479 => ?_, fun hc479 => ?_⟩)
      · have h480 := h478.1 hc479
        refine wpc_sl (n := 1) (c' := 14) (pc' := 53) (ls' := [some (.ref 0), some (.int x1), none, some (.int x3), some (.int x4), some (.int (gI s 3 (ix ((x1 * (6 : Int32)) + x4))))]) (st' := [.int (0 : Int32)]) (s' := s) rfl ?_
        exact wpc_ret rfl rfl (fun q => absurd q (by decide)) rfl ⟨(0 : Int32), rfl, h480⟩
      · have h481 := h478.2 hc479
        refine wpc_sl (n := 2) (c' := 14) (pc' := 10) (ls' := [some (.ref 0), some (.int x1), none, some (.int x3), some (.int (x4 + (1 : Int32))), some (.int (gI s 3 (ix ((x1 * (6 : Int32)) + x4))))]) (st' := []) (s' := s) rfl ?_
        exact wpc_lle (ls := [some (.ref 0), some (.int x1), none, some (.int x3), some (.int (x4 + (1 : Int32))), none]) ⟨rfl, rfl, rfl, rfl, trivial⟩ h481
  · have h473 := h.2 hc471
    refine wpc_sl (n := 1) (c' := 14) (pc' := 61) (ls' := [some (.ref 0), some (.int x1), none, some (.int x3), some (.int x4), none]) (st' := [.int (1 : Int32)]) (s' := s) rfl ?_
    exact wpc_ret rfl rfl (fun q => absurd q (by decide)) rfl ⟨(1 : Int32), rfl, h473⟩
theorem c9_in  (s : St) (Q : Int32 → St → Prop) (h : wpcI PP 9 cm9 14 4 [some (.ref 0), some (.int (0 : Int32)), some (.int (0 : Int32)), none] [] s Q) : calI PP 9 14 [.ref 0] s Q := by
  refine cal_of (me := cm9) (ls := [some (.ref 0), none, none, none]) rfl (Nat.le_of_ble_eq_true rfl) rfl ?_
  refine wpc_sl (n := 4) (c' := 14) (pc' := 4) (ls' := [some (.ref 0), some (.int (0 : Int32)), some (.int (0 : Int32)), none]) (st' := []) (s' := s) rfl ?_
  exact h
theorem c9_4 (x1 : Int32) (x2 : Int32) (s : St) (Q : Int32 → St → Prop) (h : ((x2 < (gI s 0 17)) → inb 16 x2 ∧ inb 8 (gI s 1 (ix x2)) ∧ (((gI s 4 (ix (gI s 1 (ix x2)))) = (0 : Int32)) → calI PP 7 14 [.ref 0, .int x2, .int (0 : Int32)] s (fun v464 s463 => ((v464 = (0 : Int32)) → wpcI PP 9 cm9 14 46 [some (.ref 0), some (.int x1), some (.int x2), none] [] s463 Q) ∧ (¬ (v464 = (0 : Int32)) → inb 8 (gI s 1 (ix x2)) ∧ wpcI PP 9 cm9 14 46 [some (.ref 0), some (.int (1 : Int32)), some (.int x2), none] [] (sI s463 4 (ix (gI s 1 (ix x2))) (1 : Int32)) Q))) ∧ (¬ ((gI s 4 (ix (gI s 1 (ix x2)))) = (0 : Int32)) → wpcI PP 9 cm9 14 46 [some (.ref 0), some (.int x1), some (.int x2), none] [] s Q)) ∧ (¬ (x2 < (gI s 0 17)) → Q (x1 &&& 1) s)) : wpcI PP 9 cm9 14 4 [some (.ref 0), some (.int x1), some (.int x2), none] [] s Q := by
  refine wpc_sl (n := 3) (c' := 14) (pc' := 9) (ls' := [some (.ref 0), some (.int x1), some (.int x2), none]) (st' := [.int (gI s 0 17), .int x2]) (s' := s) rfl ?_
  refine wpc_icmp (a := 52) (b := 12) rfl (by decide) rfl rfl (wpc_br (p := x2 < (gI s 0 17)) ⟨fun hc455 => ?_, fun hc455 => ?_⟩)
  · have h456 := h.1 hc455
    refine wpc_sl (n := 3) (c' := 14) (pc' := 17) (ls' := [some (.ref 0), some (.int x1), some (.int x2), none]) (st' := [.int x2, .ref 1]) (s' := s) rfl ?_
    refine wpc_ldaI (a := 0) (N := 16) (v := (gI s 1 (ix x2))) rfl rfl (by decide) h456.1 rfl ?_
    have h458 := h456.2
    refine wpc_sl (n := 4) (c' := 14) (pc' := 24) (ls' := [some (.ref 0), some (.int x1), some (.int x2), some (.int (gI s 1 (ix x2)))]) (st' := [.int (gI s 1 (ix x2)), .ref 4]) (s' := s) rfl ?_
    refine wpc_ldaZ (a := 3) (N := 8) (v := (gI s 4 (ix (gI s 1 (ix x2))))) rfl rfl (by decide) h458.1 rfl ?_
    have h459 := h458.2
    refine wpc_if (a := 46) (b := 28) rfl (by decide) rfl rfl (wpc_br (p := (gI s 4 (ix (gI s 1 (ix x2)))) = (0 : Int32)) ⟨fun hc460 => ?_, fun hc460 => ?_⟩)
    · have h461 := h459.1 hc460
      refine wpc_sl (n := 3) (c' := 14) (pc' := 31) (ls' := [some (.ref 0), some (.int x1), some (.int x2), some (.int (gI s 1 (ix x2)))]) (st' := [.int (0 : Int32), .int x2, .ref 0]) (s' := s) rfl ?_
      refine wpc_callI (m' := 7) (me' := cm7) (as := [.int x2, .int (0 : Int32)]) (r := []) rfl rfl rfl rfl rfl ⟨by decide, (by first | decide | exact Nat.le_of_ble_eq_true rfl), (by first | decide | exact Nat.le_of_ble_eq_true rfl), rfl⟩ (calI.mono h461 fun v464 s463 h465 => ?_)
      refine wpc_if (a := 46) (b := 37) rfl (by decide) rfl rfl (wpc_br (p := v464 = (0 : Int32)) ⟨fun hc466 => ?_, fun hc466 => ?_⟩)
      · have h467 := h465.1 hc466
        exact wpc_lle (ls := [some (.ref 0), some (.int x1), some (.int x2), none]) ⟨rfl, rfl, rfl, trivial⟩ h467
      · have h468 := h465.2 hc466
        refine wpc_sl (n := 4) (c' := 14) (pc' := 43) (ls' := [some (.ref 0), some (.int x1), some (.int x2), some (.int (gI s 1 (ix x2)))]) (st' := [.int (1 : Int32), .int (gI s 1 (ix x2)), .ref 4]) (s' := s463) rfl ?_
        refine wpc_staZ (a := 3) (N := 8) (s' := (sI s463 4 (ix (gI s 1 (ix x2))) (1 : Int32))) rfl rfl (by decide) h468.1 rfl ?_
        have h469 := h468.2
        refine wpc_sl (n := 2) (c' := 14) (pc' := 46) (ls' := [some (.ref 0), some (.int (1 : Int32)), some (.int x2), some (.int (gI s 1 (ix x2)))]) (st' := []) (s' := (sI s463 4 (ix (gI s 1 (ix x2))) (1 : Int32))) rfl ?_
        exact wpc_lle (ls := [some (.ref 0), some (.int (1 : Int32)), some (.int x2), none]) ⟨rfl, rfl, rfl, trivial⟩ h469
    · have h462 := h459.2 hc460
      exact wpc_lle (ls := [some (.ref 0), some (.int x1), some (.int x2), none]) ⟨rfl, rfl, rfl, trivial⟩ h462
  · have h457 := h.2 hc455
    refine wpc_sl (n := 1) (c' := 14) (pc' := 53) (ls' := [some (.ref 0), some (.int x1), some (.int x2), none]) (st' := [.int x1]) (s' := s) rfl ?_
    exact wpc_ret rfl rfl (fun q => absurd q (by decide)) rfl ⟨(x1 &&& 1), rfl, h457⟩
theorem c9_46 (x1 : Int32) (x2 : Int32) (s : St) (Q : Int32 → St → Prop) (h : wpcI PP 9 cm9 14 4 [some (.ref 0), some (.int x1), some (.int (x2 + (1 : Int32))), none] [] s Q) : wpcI PP 9 cm9 14 46 [some (.ref 0), some (.int x1), some (.int x2), none] [] s Q := by
  refine wpc_sl (n := 2) (c' := 14) (pc' := 4) (ls' := [some (.ref 0), some (.int x1), some (.int (x2 + (1 : Int32))), none]) (st' := []) (s' := s) rfl ?_
  exact h
theorem c8_in (a1 : Int32) (a2 : Int32) (s : St) (Q : Int32 → St → Prop) (h : inb 16 a1 ∧ wpcI PP 8 cm8 14 13 [some (.ref 0), some (.int a1), none, some (.int (gI s 2 (ix a1))), some (.int (0 : Int32)), some (.int a2), none] [] s Q) : calI PP 8 14 [.ref 0, .int a1, .int a2] s Q := by
  refine cal_of (me := cm8) (ls := [some (.ref 0), some (.int a1), some (.int a2), none, none, none, none]) rfl (Nat.le_of_ble_eq_true rfl) rfl ?_
  refine wpc_sl (n := 3) (c' := 14) (pc' := 5) (ls' := [some (.ref 0), some (.int a1), some (.int a2), none, none, none, none]) (st' := [.int a1, .ref 2]) (s' := s) rfl ?_
  refine wpc_ldaI (a := 1) (N := 16) (v := (gI s 2 (ix a1))) rfl rfl (by decide) h.1 rfl ?_
  have h496 := h.2
  refine wpc_sl (n := 5) (c' := 14) (pc' := 13) (ls' := [some (.ref 0), some (.int a1), some (.int a2), some (.int (gI s 2 (ix a1))), some (.int (0 : Int32)), some (.int a2), none]) (st' := []) (s' := s) rfl ?_
  exact wpc_lle (ls := [some (.ref 0), some (.int a1), none, some (.int (gI s 2 (ix a1))), some (.int (0 : Int32)), some (.int a2), none]) ⟨rfl, rfl, rfl, rfl, rfl, trivial⟩ h496
theorem c8_13 (x1 : Int32) (x3 : Int32) (x4 : Int32) (x5 : Int32) (s : St) (Q : Int32 → St → Prop) (h : ((x5 < x3) → inb 96 ((x1 * (6 : Int32)) + x5) ∧ (((gI s 3 (ix ((x1 * (6 : Int32)) + x5))) < (16 : Int32)) → Q (x4 ||| ((1 : Int32) <<< ((gI s 3 (ix ((x1 * (6 : Int32)) + x5))) &&& 31))) s) ∧ (¬ ((gI s 3 (ix ((x1 * (6 : Int32)) + x5))) < (16 : Int32)) → inb 8 ((gI s 3 (ix ((x1 * (6 : Int32)) + x5))) - (16 : Int32)) ∧ inb 8 ((gI s 3 (ix ((x1 * (6 : Int32)) + x5))) - (16 : Int32)) ∧ (((gI s 4 (ix ((gI s 3 (ix ((x1 * (6 : Int32)) + x5))) - (16 : Int32)))) = (0 : Int32)) → Q (x4 ||| (gI s 5 (ix ((gI s 3 (ix ((x1 * (6 : Int32)) + x5))) - (16 : Int32))))) s) ∧ (¬ ((gI s 4 (ix ((gI s 3 (ix ((x1 * (6 : Int32)) + x5))) - (16 : Int32)))) = (0 : Int32)) → wpcI PP 8 cm8 14 13 [some (.ref 0), some (.int x1), none, some (.int x3), some (.int (x4 ||| (gI s 5 (ix ((gI s 3 (ix ((x1 * (6 : Int32)) + x5))) - (16 : Int32)))))), some (.int (x5 + (1 : Int32))), none] [] s Q))) ∧ (¬ (x5 < x3) → Q x4 s)) : wpcI PP 8 cm8 14 13 [some (.ref 0), some (.int x1), none, some (.int x3), some (.int x4), some (.int x5), none] [] s Q := by
  refine wpc_sl (n := 2) (c' := 14) (pc' := 16) (ls' := [some (.ref 0), some (.int x1), none, some (.int x3), some (.int x4), some (.int x5), none]) (st' := [.int x3, .int x5]) (s' := s) rfl ?_
  refine wpc_icmp (a := 85) (b := 19) rfl (by decide) rfl rfl (wpc_br (p := x5 < x3) ⟨fun hc497 => ?_, fun hc497 => ?_⟩)
  · have h498 := h.1 hc497
    refine wpc_sl (n := 7) (c' := 14) (pc' := 30) (ls' := [some (.ref 0), some (.int x1), none, some (.int x3), some (.int x4), some (.int x5), none]) (st' := [.int ((x1 * (6 : Int32)) + x5), .ref 3]) (s' := s) rfl ?_
    refine wpc_ldaI (a := 2) (N := 96) (v := (gI s 3 (ix ((x1 * (6 : Int32)) + x5)))) rfl rfl (by decide) h498.1 rfl ?_
    have h500 := h498.2
    refine wpc_sl (n := 3) (c' := 14) (pc' := 37) (ls' := [some (.ref 0), some (.int x1), none, some (.int x3), some (.int x4), some (.int x5), some (.int (gI s 3 (ix ((x1 * (6 : Int32)) + x5))))]) (st' := [.int (16 : Int32), .int (gI s 3 (ix ((x1 * (6 : Int32)) + x5)))]) (s' := s) rfl ?_
    refine wpc_icmp (a := 48) (b := 40) rfl (by decide) rfl rfl (wpc_br (p := (gI s 3 (ix ((x1 * (6 : Int32)) + x5))) < (16 : Int32)) ⟨fun hc501 => ?_, fun hc501 => ?_⟩)
    · have h502 := h500.1 hc501
      refine wpc_sl (n := 5) (c' := 14) (pc' := 47) (ls' := [some (.ref 0), some (.int x1), none, some (.int x3), some (.int x4), some (.int x5), some (.int (gI s 3 (ix ((x1 * (6 : Int32)) + x5))))]) (st' := [.int (x4 ||| ((1 : Int32) <<< ((gI s 3 (ix ((x1 * (6 : Int32)) + x5))) &&& 31)))]) (s' := s) rfl ?_
      exact wpc_ret rfl rfl (fun q => absurd q (by decide)) rfl ⟨(x4 ||| ((1 : Int32) <<< ((gI s 3 (ix ((x1 * (6 : Int32)) + x5))) &&& 31))), rfl, h502⟩
    · have h503 := h500.2 hc501
      refine wpc_sl (n := 6) (c' := 14) (pc' := 59) (ls' := [some (.ref 0), some (.int x1), none, some (.int x3), some (.int x4), some (.int x5), some (.int (gI s 3 (ix ((x1 * (6 : Int32)) + x5))))]) (st' := [.int ((gI s 3 (ix ((x1 * (6 : Int32)) + x5))) - (16 : Int32)), .ref 5, .int x4]) (s' := s) rfl ?_
      refine wpc_ldaI (a := 4) (N := 8) (v := (gI s 5 (ix ((gI s 3 (ix ((x1 * (6 : Int32)) + x5))) - (16 : Int32))))) rfl rfl (by decide) h503.1 rfl ?_
      have h504 := h503.2
      refine wpc_sl (n := 7) (c' := 14) (pc' := 72) (ls' := [some (.ref 0), some (.int x1), none, some (.int x3), some (.int (x4 ||| (gI s 5 (ix ((gI s 3 (ix ((x1 * (6 : Int32)) + x5))) - (16 : Int32)))))), some (.int x5), some (.int (gI s 3 (ix ((x1 * (6 : Int32)) + x5))))]) (st' := [.int ((gI s 3 (ix ((x1 * (6 : Int32)) + x5))) - (16 : Int32)), .ref 4]) (s' := s) rfl ?_
      refine wpc_ldaZ (a := 3) (N := 8) (v := (gI s 4 (ix ((gI s 3 (ix ((x1 * (6 : Int32)) + x5))) - (16 : Int32))))) rfl rfl (by decide) h504.1 rfl ?_
      have h505 := h504.2
      refine wpc_if (a := 79) (b := 76) rfl (by decide) rfl rfl (wpc_br (p := (gI s 4 (ix ((gI s 3 (ix ((x1 * (6 : Int32)) + x5))) - (16 : Int32)))) = (0 : Int32)) ⟨fun hc506 => ?_, fun hc506 => ?_⟩)
      · have h507 := h505.1 hc506
        refine wpc_sl (n := 1) (c' := 14) (pc' := 78) (ls' := [some (.ref 0), some (.int x1), none, some (.int x3), some (.int (x4 ||| (gI s 5 (ix ((gI s 3 (ix ((x1 * (6 : Int32)) + x5))) - (16 : Int32)))))), some (.int x5), some (.int (gI s 3 (ix ((x1 * (6 : Int32)) + x5))))]) (st' := [.int (x4 ||| (gI s 5 (ix ((gI s 3 (ix ((x1 * (6 : Int32)) + x5))) - (16 : Int32)))))]) (s' := s) rfl ?_
        exact wpc_ret rfl rfl (fun q => absurd q (by decide)) rfl ⟨(x4 ||| (gI s 5 (ix ((gI s 3 (ix ((x1 * (6 : Int32)) + x5))) - (16 : Int32))))), rfl, h507⟩
      · have h508 := h505.2 hc506
        refine wpc_sl (n := 2) (c' := 14) (pc' := 13) (ls' := [some (.ref 0), some (.int x1), none, some (.int x3), some (.int (x4 ||| (gI s 5 (ix ((gI s 3 (ix ((x1 * (6 : Int32)) + x5))) - (16 : Int32)))))), some (.int (x5 + (1 : Int32))), some (.int (gI s 3 (ix ((x1 * (6 : Int32)) + x5))))]) (st' := []) (s' := s) rfl ?_
        exact wpc_lle (ls := [some (.ref 0), some (.int x1), none, some (.int x3), some (.int (x4 ||| (gI s 5 (ix ((gI s 3 (ix ((x1 * (6 : Int32)) + x5))) - (16 : Int32)))))), some (.int (x5 + (1 : Int32))), none]) ⟨rfl, rfl, rfl, rfl, rfl, trivial⟩ h508
  · have h499 := h.2 hc497
    refine wpc_sl (n := 1) (c' := 14) (pc' := 87) (ls' := [some (.ref 0), some (.int x1), none, some (.int x3), some (.int x4), some (.int x5), none]) (st' := [.int x4]) (s' := s) rfl ?_
    exact wpc_ret rfl rfl (fun q => absurd q (by decide)) rfl ⟨x4, rfl, h499⟩
theorem c10_in  (s : St) (Q : Int32 → St → Prop) (h : wpcI PP 10 cm10 14 4 [some (.ref 0), some (.int (0 : Int32)), some (.int (0 : Int32)), none, none] [] s Q) : calI PP 10 14 [.ref 0] s Q := by
  refine cal_of (me := cm10) (ls := [some (.ref 0), none, none, none, none]) rfl (Nat.le_of_ble_eq_true rfl) rfl ?_
  refine wpc_sl (n := 4) (c' := 14) (pc' := 4) (ls' := [some (.ref 0), some (.int (0 : Int32)), some (.int (0 : Int32)), none, none]) (st' := []) (s' := s) rfl ?_
  exact h
theorem c10_4 (x1 : Int32) (x2 : Int32) (s : St) (Q : Int32 → St → Prop) (h : ((x2 < (gI s 0 17)) → inb 16 x2 ∧ calI PP 8 14 [.ref 0, .int x2, .int (0 : Int32)] s (fun v487 s486 => inb 8 (gI s 1 (ix x2)) ∧ inb 8 (gI s 1 (ix x2)) ∧ ((((gI s486 5 (ix (gI s 1 (ix x2)))) ||| v487) = (gI s486 5 (ix (gI s 1 (ix x2))))) → wpcI PP 10 cm10 14 62 [some (.ref 0), some (.int x1), some (.int x2), none, none] [] s486 Q) ∧ (¬ (((gI s486 5 (ix (gI s 1 (ix x2)))) ||| v487) = (gI s486 5 (ix (gI s 1 (ix x2))))) → inb 8 (gI s 1 (ix x2)) ∧ inb 8 (gI s 1 (ix x2)) ∧ wpcI PP 10 cm10 14 62 [some (.ref 0), some (.int (1 : Int32)), some (.int x2), none, none] [] (sI s486 5 (ix (gI s 1 (ix x2))) ((gI s486 5 (ix (gI s 1 (ix x2)))) ||| v487)) Q))) ∧ (¬ (x2 < (gI s 0 17)) → Q (x1 &&& 1) s)) : wpcI PP 10 cm10 14 4 [some (.ref 0), some (.int x1), some (.int x2), none, none] [] s Q := by
  refine wpc_sl (n := 3) (c' := 14) (pc' := 9) (ls' := [some (.ref 0), some (.int x1), some (.int x2), none, none]) (st' := [.int (gI s 0 17), .int x2]) (s' := s) rfl ?_
  refine wpc_icmp (a := 68) (b := 12) rfl (by decide) rfl rfl (wpc_br (p := x2 < (gI s 0 17)) ⟨fun hc482 => ?_, fun hc482 => ?_⟩)
  · have h483 := h.1 hc482
    refine wpc_sl (n := 3) (c' := 14) (pc' := 17) (ls' := [some (.ref 0), some (.int x1), some (.int x2), none, none]) (st' := [.int x2, .ref 1]) (s' := s) rfl ?_
    refine wpc_ldaI (a := 0) (N := 16) (v := (gI s 1 (ix x2))) rfl rfl (by decide) h483.1 rfl ?_
    have h485 := h483.2
    refine wpc_sl (n := 4) (c' := 14) (pc' := 22) (ls' := [some (.ref 0), some (.int x1), some (.int x2), some (.int (gI s 1 (ix x2))), none]) (st' := [.int (0 : Int32), .int x2, .ref 0]) (s' := s) rfl ?_
    refine wpc_callI (m' := 8) (me' := cm8) (as := [.int x2, .int (0 : Int32)]) (r := []) rfl rfl rfl rfl rfl ⟨by decide, (by first | decide | exact Nat.le_of_ble_eq_true rfl), (by first | decide | exact Nat.le_of_ble_eq_true rfl), rfl⟩ (calI.mono h485 fun v487 s486 h488 => ?_)
    refine wpc_sl (n := 4) (c' := 14) (pc' := 32) (ls' := [some (.ref 0), some (.int x1), some (.int x2), some (.int (gI s 1 (ix x2))), some (.int v487)]) (st' := [.int (gI s 1 (ix x2)), .ref 5]) (s' := s486) rfl ?_
    refine wpc_ldaI (a := 4) (N := 8) (v := (gI s486 5 (ix (gI s 1 (ix x2))))) rfl rfl (by decide) h488.1 rfl ?_
    have h489 := h488.2
    refine wpc_sl (n := 5) (c' := 14) (pc' := 41) (ls' := [some (.ref 0), some (.int x1), some (.int x2), some (.int (gI s 1 (ix x2))), some (.int v487)]) (st' := [.int (gI s 1 (ix x2)), .ref 5, .int ((gI s486 5 (ix (gI s 1 (ix x2)))) ||| v487)]) (s' := s486) rfl ?_
    refine wpc_ldaI (a := 4) (N := 8) (v := (gI s486 5 (ix (gI s 1 (ix x2))))) rfl rfl (by decide) h489.1 rfl ?_
    have h490 := h489.2
    refine wpc_icmp (a := 62) (b := 45) rfl (by decide) rfl rfl (wpc_br (p := ((gI s486 5 (ix (gI s 1 (ix x2)))) ||| v487) = (gI s486 5 (ix (gI s 1 (ix x2))))) ⟨fun hc491 => ?_, fun hc491 => ?_⟩)
    · have h492 := h490.1 hc491
      exact wpc_lle (ls := [some (.ref 0), some (.int x1), some (.int x2), none, none]) ⟨rfl, rfl, rfl, trivial⟩ h492
    · have h493 := h490.2 hc491
      refine wpc_sl (n := 6) (c' := 14) (pc' := 55) (ls' := [some (.ref 0), some (.int x1), some (.int x2), some (.int (gI s 1 (ix x2))), some (.int v487)]) (st' := [.int (gI s 1 (ix x2)), .ref 5, .int (gI s 1 (ix x2)), .ref 5]) (s' := s486) rfl ?_
      refine wpc_ldaI (a := 4) (N := 8) (v := (gI s486 5 (ix (gI s 1 (ix x2))))) rfl rfl (by decide) h493.1 rfl ?_
      have h494 := h493.2
      refine wpc_sl (n := 2) (c' := 14) (pc' := 59) (ls' := [some (.ref 0), some (.int x1), some (.int x2), some (.int (gI s 1 (ix x2))), some (.int v487)]) (st' := [.int ((gI s486 5 (ix (gI s 1 (ix x2)))) ||| v487), .int (gI s 1 (ix x2)), .ref 5]) (s' := s486) rfl ?_
      refine wpc_staI (a := 4) (N := 8) (s' := (sI s486 5 (ix (gI s 1 (ix x2))) ((gI s486 5 (ix (gI s 1 (ix x2)))) ||| v487))) rfl rfl (by decide) h494.1 rfl ?_
      have h495 := h494.2
      refine wpc_sl (n := 2) (c' := 14) (pc' := 62) (ls' := [some (.ref 0), some (.int (1 : Int32)), some (.int x2), some (.int (gI s 1 (ix x2))), some (.int v487)]) (st' := []) (s' := (sI s486 5 (ix (gI s 1 (ix x2))) ((gI s486 5 (ix (gI s 1 (ix x2)))) ||| v487))) rfl ?_
      exact wpc_lle (ls := [some (.ref 0), some (.int (1 : Int32)), some (.int x2), none, none]) ⟨rfl, rfl, rfl, trivial⟩ h495
  · have h484 := h.2 hc482
    refine wpc_sl (n := 1) (c' := 14) (pc' := 69) (ls' := [some (.ref 0), some (.int x1), some (.int x2), none, none]) (st' := [.int x1]) (s' := s) rfl ?_
    exact wpc_ret rfl rfl (fun q => absurd q (by decide)) rfl ⟨(x1 &&& 1), rfl, h484⟩
theorem c10_62 (x1 : Int32) (x2 : Int32) (s : St) (Q : Int32 → St → Prop) (h : wpcI PP 10 cm10 14 4 [some (.ref 0), some (.int x1), some (.int (x2 + (1 : Int32))), none, none] [] s Q) : wpcI PP 10 cm10 14 62 [some (.ref 0), some (.int x1), some (.int x2), none, none] [] s Q := by
  refine wpc_sl (n := 2) (c' := 14) (pc' := 4) (ls' := [some (.ref 0), some (.int x1), some (.int (x2 + (1 : Int32))), none, none]) (st' := []) (s' := s) rfl ?_
  exact h
theorem c12_in (a1 : Int32) (s : St) (Q : Int32 → St → Prop) (h : inb 16 a1 ∧ inb 16 a1 ∧ wpcI PP 12 cm12 14 20 [some (.ref 0), some (.int a1), some (.int (gI s 1 (ix a1))), some (.int (gI s 2 (ix a1))), some (.int (0 : Int32)), some (.int (0 : Int32)), none, none, none] [] s Q) : calI PP 12 14 [.ref 0, .int a1] s Q := by
  refine cal_of (me := cm12) (ls := [some (.ref 0), some (.int a1), none, none, none, none, none, none, none]) rfl (Nat.le_of_ble_eq_true rfl) rfl ?_
  refine wpc_sl (n := 3) (c' := 14) (pc' := 5) (ls' := [some (.ref 0), some (.int a1), none, none, none, none, none, none, none]) (st' := [.int a1, .ref 1]) (s' := s) rfl ?_
  refine wpc_ldaI (a := 0) (N := 16) (v := (gI s 1 (ix a1))) rfl rfl (by decide) h.1 rfl ?_
  have h519 := h.2
  refine wpc_sl (n := 4) (c' := 14) (pc' := 12) (ls' := [some (.ref 0), some (.int a1), some (.int (gI s 1 (ix a1))), none, none, none, none, none, none]) (st' := [.int a1, .ref 2]) (s' := s) rfl ?_
  refine wpc_ldaI (a := 1) (N := 16) (v := (gI s 2 (ix a1))) rfl rfl (by decide) h519.1 rfl ?_
  have h520 := h519.2
  refine wpc_sl (n := 5) (c' := 14) (pc' := 20) (ls' := [some (.ref 0), some (.int a1), some (.int (gI s 1 (ix a1))), some (.int (gI s 2 (ix a1))), some (.int (0 : Int32)), some (.int (0 : Int32)), none, none, none]) (st' := []) (s' := s) rfl ?_
  exact h520
theorem c12_20 (x1 : Int32) (x2 : Int32) (x3 : Int32) (x4 : Int32) (x5 : Int32) (s : St) (Q : Int32 → St → Prop) (h : ((x5 < x3) → inb 96 ((x1 * (6 : Int32)) + x5) ∧ (((gI s 3 (ix ((x1 * (6 : Int32)) + x5))) < (16 : Int32)) → wpcI PP 12 cm12 14 131 [some (.ref 0), some (.int x1), some (.int x2), some (.int x3), some (.int x4), some (.int x5), none, none, none] [] s Q) ∧ (¬ ((gI s 3 (ix ((x1 * (6 : Int32)) + x5))) < (16 : Int32)) → calI PP 8 14 [.ref 0, .int x1, .int (x5 + (1 : Int32))] s (fun v529 s528 => calI PP 7 14 [.ref 0, .int x1, .int (x5 + (1 : Int32))] s528 (fun v532 s531 => ((v532 = (0 : Int32)) → wpcI PP 12 cm12 14 91 [some (.ref 0), some (.int x1), some (.int x2), some (.int x3), some (.int x4), some (.int x5), none, some (.int ((gI s 3 (ix ((x1 * (6 : Int32)) + x5))) - (16 : Int32))), some (.int v529)] [] s531 Q) ∧ (¬ (v532 = (0 : Int32)) → inb 8 x2 ∧ wpcI PP 12 cm12 14 91 [some (.ref 0), some (.int x1), some (.int x2), some (.int x3), some (.int x4), some (.int x5), none, some (.int ((gI s 3 (ix ((x1 * (6 : Int32)) + x5))) - (16 : Int32))), some (.int (v529 ||| (gI s531 6 (ix x2))))] [] s531 Q))))) ∧ (¬ (x5 < x3) → Q (x4 &&& 1) s)) : wpcI PP 12 cm12 14 20 [some (.ref 0), some (.int x1), some (.int x2), some (.int x3), some (.int x4), some (.int x5), none, none, none] [] s Q := by
  refine wpc_sl (n := 2) (c' := 14) (pc' := 23) (ls' := [some (.ref 0), some (.int x1), some (.int x2), some (.int x3), some (.int x4), some (.int x5), none, none, none]) (st' := [.int x3, .int x5]) (s' := s) rfl ?_
  refine wpc_icmp (a := 137) (b := 26) rfl (by decide) rfl rfl (wpc_br (p := x5 < x3) ⟨fun hc521 => ?_, fun hc521 => ?_⟩)
  · have h522 := h.1 hc521
    refine wpc_sl (n := 7) (c' := 14) (pc' := 37) (ls' := [some (.ref 0), some (.int x1), some (.int x2), some (.int x3), some (.int x4), some (.int x5), none, none, none]) (st' := [.int ((x1 * (6 : Int32)) + x5), .ref 3]) (s' := s) rfl ?_
    refine wpc_ldaI (a := 2) (N := 96) (v := (gI s 3 (ix ((x1 * (6 : Int32)) + x5)))) rfl rfl (by decide) h522.1 rfl ?_
    have h524 := h522.2
    refine wpc_sl (n := 3) (c' := 14) (pc' := 44) (ls' := [some (.ref 0), some (.int x1), some (.int x2), some (.int x3), some (.int x4), some (.int x5), some (.int (gI s 3 (ix ((x1 * (6 : Int32)) + x5)))), none, none]) (st' := [.int (16 : Int32), .int (gI s 3 (ix ((x1 * (6 : Int32)) + x5)))]) (s' := s) rfl ?_
    refine wpc_icmp (a := 50) (b := 47) rfl (by decide) rfl rfl (wpc_br (p := (gI s 3 (ix ((x1 * (6 : Int32)) + x5))) < (16 : Int32)) ⟨fun hc525 => ?_, fun hc525 => ?_⟩)
    · have h526 := h524.1 hc525
      refine wpc_sl (n := 1) (c' := 14) (pc' := 131) (ls' := [some (.ref 0), some (.int x1), some (.int x2), some (.int x3), some (.int x4), some (.int x5), some (.int (gI s 3 (ix ((x1 * (6 : Int32)) + x5)))), none, none]) (st' := []) (s' := s) rfl ?_
      exact wpc_lle (ls := [some (.ref 0), some (.int x1), some (.int x2), some (.int x3), some (.int x4), some (.int x5), none, none, none]) ⟨rfl, rfl, rfl, rfl, rfl, rfl, trivial⟩ h526
    · have h527 := h524.2 hc525
      refine wpc_sl (n := 9) (c' := 14) (pc' := 63) (ls' := [some (.ref 0), some (.int x1), some (.int x2), some (.int x3), some (.int x4), some (.int x5), some (.int (gI s 3 (ix ((x1 * (6 : Int32)) + x5)))), some (.int ((gI s 3 (ix ((x1 * (6 : Int32)) + x5))) - (16 : Int32))), none]) (st' := [.int (x5 + (1 : Int32)), .int x1, .ref 0]) (s' := s) rfl ?_
      refine wpc_callI (m' := 8) (me' := cm8) (as := [.int x1, .int (x5 + (1 : Int32))]) (r := []) rfl rfl rfl rfl rfl ⟨by decide, (by first | decide | exact Nat.le_of_ble_eq_true rfl), (by first | decide | exact Nat.le_of_ble_eq_true rfl), rfl⟩ (calI.mono h527 fun v529 s528 h530 => ?_)
      refine wpc_sl (n := 6) (c' := 14) (pc' := 74) (ls' := [some (.ref 0), some (.int x1), some (.int x2), some (.int x3), some (.int x4), some (.int x5), some (.int (gI s 3 (ix ((x1 * (6 : Int32)) + x5)))), some (.int ((gI s 3 (ix ((x1 * (6 : Int32)) + x5))) - (16 : Int32))), some (.int v529)]) (st' := [.int (x5 + (1 : Int32)), .int x1, .ref 0]) (s' := s528) rfl ?_
      refine wpc_callI (m' := 7) (me' := cm7) (as := [.int x1, .int (x5 + (1 : Int32))]) (r := []) rfl rfl rfl rfl rfl ⟨by decide, (by first | decide | exact Nat.le_of_ble_eq_true rfl), (by first | decide | exact Nat.le_of_ble_eq_true rfl), rfl⟩ (calI.mono h530 fun v532 s531 h533 => ?_)
      refine wpc_if (a := 91) (b := 80) rfl (by decide) rfl rfl (wpc_br (p := v532 = (0 : Int32)) ⟨fun hc534 => ?_, fun hc534 => ?_⟩)
      · have h535 := h533.1 hc534
        exact wpc_lle (ls := [some (.ref 0), some (.int x1), some (.int x2), some (.int x3), some (.int x4), some (.int x5), none, some (.int ((gI s 3 (ix ((x1 * (6 : Int32)) + x5))) - (16 : Int32))), some (.int v529)]) ⟨rfl, rfl, rfl, rfl, rfl, rfl, rfl, rfl, trivial⟩ h535
      · have h536 := h533.2 hc534
        refine wpc_sl (n := 4) (c' := 14) (pc' := 87) (ls' := [some (.ref 0), some (.int x1), some (.int x2), some (.int x3), some (.int x4), some (.int x5), some (.int (gI s 3 (ix ((x1 * (6 : Int32)) + x5)))), some (.int ((gI s 3 (ix ((x1 * (6 : Int32)) + x5))) - (16 : Int32))), some (.int v529)]) (st' := [.int x2, .ref 6, .int v529]) (s' := s531) rfl ?_
        refine wpc_ldaI (a := 5) (N := 8) (v := (gI s531 6 (ix x2))) rfl rfl (by decide) h536.1 rfl ?_
        have h537 := h536.2
        refine wpc_sl (n := 2) (c' := 14) (pc' := 91) (ls' := [some (.ref 0), some (.int x1), some (.int x2), some (.int x3), some (.int x4), some (.int x5), some (.int (gI s 3 (ix ((x1 * (6 : Int32)) + x5)))), some (.int ((gI s 3 (ix ((x1 * (6 : Int32)) + x5))) - (16 : Int32))), some (.int (v529 ||| (gI s531 6 (ix x2))))]) (st' := []) (s' := s531) rfl ?_
        exact wpc_lle (ls := [some (.ref 0), some (.int x1), some (.int x2), some (.int x3), some (.int x4), some (.int x5), none, some (.int ((gI s 3 (ix ((x1 * (6 : Int32)) + x5))) - (16 : Int32))), some (.int (v529 ||| (gI s531 6 (ix x2))))]) ⟨rfl, rfl, rfl, rfl, rfl, rfl, rfl, rfl, trivial⟩ h537
  · have h523 := h.2 hc521
    refine wpc_sl (n := 1) (c' := 14) (pc' := 139) (ls' := [some (.ref 0), some (.int x1), some (.int x2), some (.int x3), some (.int x4), some (.int x5), none, none, none]) (st' := [.int x4]) (s' := s) rfl ?_
    exact wpc_ret rfl rfl (fun q => absurd q (by decide)) rfl ⟨(x4 &&& 1), rfl, h523⟩
theorem c12_131 (x1 : Int32) (x2 : Int32) (x3 : Int32) (x4 : Int32) (x5 : Int32) (s : St) (Q : Int32 → St → Prop) (h : wpcI PP 12 cm12 14 20 [some (.ref 0), some (.int x1), some (.int x2), some (.int x3), some (.int x4), some (.int (x5 + (1 : Int32))), none, none, none] [] s Q) : wpcI PP 12 cm12 14 131 [some (.ref 0), some (.int x1), some (.int x2), some (.int x3), some (.int x4), some (.int x5), none, none, none] [] s Q := by
  refine wpc_sl (n := 2) (c' := 14) (pc' := 20) (ls' := [some (.ref 0), some (.int x1), some (.int x2), some (.int x3), some (.int x4), some (.int (x5 + (1 : Int32))), none, none, none]) (st' := []) (s' := s) rfl ?_
  exact h
theorem c12_91 (x1 : Int32) (x2 : Int32) (x3 : Int32) (x4 : Int32) (x5 : Int32) (x7 : Int32) (x8 : Int32) (s : St) (Q : Int32 → St → Prop) (h : inb 8 x7 ∧ inb 8 x7 ∧ ((((gI s 6 (ix x7)) ||| x8) = (gI s 6 (ix x7))) → wpcI PP 12 cm12 14 131 [some (.ref 0), some (.int x1), some (.int x2), some (.int x3), some (.int x4), some (.int x5), none, none, none] [] s Q) ∧ (¬ (((gI s 6 (ix x7)) ||| x8) = (gI s 6 (ix x7))) → inb 8 x7 ∧ inb 8 x7 ∧ wpcI PP 12 cm12 14 131 [some (.ref 0), some (.int x1), some (.int x2), some (.int x3), some (.int (1 : Int32)), some (.int x5), none, none, none] [] (sI s 6 (ix x7) ((gI s 6 (ix x7)) ||| x8)) Q)) : wpcI PP 12 cm12 14 91 [some (.ref 0), some (.int x1), some (.int x2), some (.int x3), some (.int x4), some (.int x5), none, some (.int x7), some (.int x8)] [] s Q := by
  refine wpc_sl (n := 3) (c' := 14) (pc' := 97) (ls' := [some (.ref 0), some (.int x1), some (.int x2), some (.int x3), some (.int x4), some (.int x5), none, some (.int x7), some (.int x8)]) (st' := [.int x7, .ref 6]) (s' := s) rfl ?_
  refine wpc_ldaI (a := 5) (N := 8) (v := (gI s 6 (ix x7))) rfl rfl (by decide) h.1 rfl ?_
  have h538 := h.2
  refine wpc_sl (n := 5) (c' := 14) (pc' := 107) (ls' := [some (.ref 0), some (.int x1), some (.int x2), some (.int x3), some (.int x4), some (.int x5), none, some (.int x7), some (.int x8)]) (st' := [.int x7, .ref 6, .int ((gI s 6 (ix x7)) ||| x8)]) (s' := s) rfl ?_
  refine wpc_ldaI (a := 5) (N := 8) (v := (gI s 6 (ix x7))) rfl rfl (by decide) h538.1 rfl ?_
  have h539 := h538.2
  refine wpc_icmp (a := 131) (b := 111) rfl (by decide) rfl rfl (wpc_br (p := ((gI s 6 (ix x7)) ||| x8) = (gI s 6 (ix x7))) ⟨fun hc540 => ?_, fun hc540 => ?_⟩)
  · have h541 := h539.1 hc540
    exact wpc_lle (ls := [some (.ref 0), some (.int x1), some (.int x2), some (.int x3), some (.int x4), some (.int x5), none, none, none]) ⟨rfl, rfl, rfl, rfl, rfl, rfl, trivial⟩ h541
  · have h542 := h539.2 hc540
    refine wpc_sl (n := 6) (c' := 14) (pc' := 123) (ls' := [some (.ref 0), some (.int x1), some (.int x2), some (.int x3), some (.int x4), some (.int x5), none, some (.int x7), some (.int x8)]) (st' := [.int x7, .ref 6, .int x7, .ref 6]) (s' := s) rfl ?_
    refine wpc_ldaI (a := 5) (N := 8) (v := (gI s 6 (ix x7))) rfl rfl (by decide) h542.1 rfl ?_
    have h543 := h542.2
    refine wpc_sl (n := 2) (c' := 14) (pc' := 127) (ls' := [some (.ref 0), some (.int x1), some (.int x2), some (.int x3), some (.int x4), some (.int x5), none, some (.int x7), some (.int x8)]) (st' := [.int ((gI s 6 (ix x7)) ||| x8), .int x7, .ref 6]) (s' := s) rfl ?_
    refine wpc_staI (a := 5) (N := 8) (s' := (sI s 6 (ix x7) ((gI s 6 (ix x7)) ||| x8))) rfl rfl (by decide) h543.1 rfl ?_
    have h544 := h543.2
    refine wpc_sl (n := 2) (c' := 14) (pc' := 131) (ls' := [some (.ref 0), some (.int x1), some (.int x2), some (.int x3), some (.int (1 : Int32)), some (.int x5), none, some (.int x7), some (.int x8)]) (st' := []) (s' := (sI s 6 (ix x7) ((gI s 6 (ix x7)) ||| x8))) rfl ?_
    exact wpc_lle (ls := [some (.ref 0), some (.int x1), some (.int x2), some (.int x3), some (.int (1 : Int32)), some (.int x5), none, none, none]) ⟨rfl, rfl, rfl, rfl, rfl, rfl, trivial⟩ h544
theorem c11_in  (s : St) (Q : Int32 → St → Prop) (h : wpcI PP 11 cm11 14 4 [some (.ref 0), some (.int (0 : Int32)), some (.int (0 : Int32))] [] s Q) : calI PP 11 14 [.ref 0] s Q := by
  refine cal_of (me := cm11) (ls := [some (.ref 0), none, none]) rfl (Nat.le_of_ble_eq_true rfl) rfl ?_
  refine wpc_sl (n := 4) (c' := 14) (pc' := 4) (ls' := [some (.ref 0), some (.int (0 : Int32)), some (.int (0 : Int32))]) (st' := []) (s' := s) rfl ?_
  exact h
theorem c11_4 (x1 : Int32) (x2 : Int32) (s : St) (Q : Int32 → St → Prop) (h : ((x2 < (gI s 0 17)) → calI PP 12 14 [.ref 0, .int x2] s (fun v513 s512 => ∀ m515, m515 = (if v513 = (0 : Int32) then x1 else (1 : Int32)) → (wpcI PP 11 cm11 14 4 [some (.ref 0), some (.int m515), some (.int (x2 + (1 : Int32)))] [] s512 Q))) ∧ (¬ (x2 < (gI s 0 17)) → Q (x1 &&& 1) s)) : wpcI PP 11 cm11 14 4 [some (.ref 0), some (.int x1), some (.int x2)] [] s Q := by
  refine wpc_sl (n := 3) (c' := 14) (pc' := 9) (ls' := [some (.ref 0), some (.int x1), some (.int x2)]) (st' := [.int (gI s 0 17), .int x2]) (s' := s) rfl ?_
  refine wpc_icmp (a := 28) (b := 12) rfl (by decide) rfl rfl (wpc_br (p := x2 < (gI s 0 17)) ⟨fun hc509 => ?_, fun hc509 => ?_⟩)
  · have h510 := h.1 hc509
    refine wpc_sl (n := 2) (c' := 14) (pc' := 14) (ls' := [some (.ref 0), some (.int x1), some (.int x2)]) (st' := [.int x2, .ref 0]) (s' := s) rfl ?_
    refine wpc_callI (m' := 12) (me' := cm12) (as := [.int x2]) (r := []) rfl rfl rfl rfl rfl ⟨by decide, (by first | decide | exact Nat.le_of_ble_eq_true rfl), (by first | decide | exact Nat.le_of_ble_eq_true rfl), rfl⟩ (calI.mono h510 fun v513 s512 h514 => ?_)
    have hm516 : ∀ m515, m515 = (if v513 = (0 : Int32) then x1 else (1 : Int32)) → wpcI PP 11 cm11 14 22 [some (.ref 0), some (.int m515), some (.int x2)] [] s512 Q := by
      intro m515 em515
      have h517 := h514 m515 em515
      refine wpc_sl (n := 2) (c' := 14) (pc' := 4) (ls' := [some (.ref 0), some (.int m515), some (.int (x2 + (1 : Int32)))]) (st' := []) (s' := s512) rfl ?_
      exact h517
    refine wpc_if (a := 22) (b := 20) rfl (by decide) rfl rfl (wpc_br (p := v513 = (0 : Int32)) ⟨fun hc518 => ?_, fun hc518 => ?_⟩)
    · first | exact hm516 _ (by simp only [if_pos hc518]) | exact wpc_lle (by repeat (first | exact trivial | refine ⟨rfl, ?_⟩)) (hm516 _ (by simp only [if_pos hc518]))
    · refine wpc_sl (n := 2) (c' := 14) (pc' := 22) (ls' := [some (.ref 0), some (.int (1 : Int32)), some (.int x2)]) (st' := []) (s' := s512) rfl ?_
      first | exact hm516 _ (by simp only [if_neg hc518]) | exact wpc_lle (by repeat (first | exact trivial | refine ⟨rfl, ?_⟩)) (hm516 _ (by simp only [if_neg hc518]))
  · have h511 := h.2 hc509
    refine wpc_sl (n := 1) (c' := 14) (pc' := 29) (ls' := [some (.ref 0), some (.int x1), some (.int x2)]) (st' := [.int x1]) (s' := s) rfl ?_
    exact wpc_ret rfl rfl (fun q => absurd q (by decide)) rfl ⟨(x1 &&& 1), rfl, h511⟩
theorem c13_in (a1 : Int32) (s : St) (Q : Int32 → St → Prop) (h : calI PP 8 14 [.ref 0, .int a1, .int (0 : Int32)] s (fun v575 s574 => calI PP 7 14 [.ref 0, .int a1, .int (0 : Int32)] s574 (fun v578 s577 => ((v578 = (0 : Int32)) → Q v575 s577) ∧ (¬ (v578 = (0 : Int32)) → inb 16 a1 ∧ inb 8 (gI s577 1 (ix a1)) ∧ Q (v575 ||| (gI s577 6 (ix (gI s577 1 (ix a1))))) s577)))) : calI PP 13 14 [.ref 0, .int a1] s Q := by
  refine cal_of (me := cm13) (ls := [some (.ref 0), some (.int a1), none]) rfl (Nat.le_of_ble_eq_true rfl) rfl ?_
  refine wpc_sl (n := 3) (c' := 14) (pc' := 3) (ls' := [some (.ref 0), some (.int a1), none]) (st' := [.int (0 : Int32), .int a1, .ref 0]) (s' := s) rfl ?_
  refine wpc_callI (m' := 8) (me' := cm8) (as := [.int a1, .int (0 : Int32)]) (r := []) rfl rfl rfl rfl rfl ⟨by decide, (by first | decide | exact Nat.le_of_ble_eq_true rfl), (by first | decide | exact Nat.le_of_ble_eq_true rfl), rfl⟩ (calI.mono h fun v575 s574 h576 => ?_)
  refine wpc_sl (n := 4) (c' := 14) (pc' := 10) (ls' := [some (.ref 0), some (.int a1), some (.int v575)]) (st' := [.int (0 : Int32), .int a1, .ref 0]) (s' := s574) rfl ?_
  refine wpc_callI (m' := 7) (me' := cm7) (as := [.int a1, .int (0 : Int32)]) (r := []) rfl rfl rfl rfl rfl ⟨by decide, (by first | decide | exact Nat.le_of_ble_eq_true rfl), (by first | decide | exact Nat.le_of_ble_eq_true rfl), rfl⟩ (calI.mono h576 fun v578 s577 h579 => ?_)
  refine wpc_if (a := 30) (b := 16) rfl (by decide) rfl rfl (wpc_br (p := v578 = (0 : Int32)) ⟨fun hc580 => ?_, fun hc580 => ?_⟩)
  · have h581 := h579.1 hc580
    refine wpc_sl (n := 1) (c' := 14) (pc' := 31) (ls' := [some (.ref 0), some (.int a1), some (.int v575)]) (st' := [.int v575]) (s' := s577) rfl ?_
    exact wpc_ret rfl rfl (fun q => absurd q (by decide)) rfl ⟨v575, rfl, h581⟩
  · have h582 := h579.2 hc580
    refine wpc_sl (n := 6) (c' := 14) (pc' := 26) (ls' := [some (.ref 0), some (.int a1), some (.int v575)]) (st' := [.int a1, .ref 1, .ref 6, .int v575]) (s' := s577) rfl ?_
    refine wpc_ldaI (a := 0) (N := 16) (v := (gI s577 1 (ix a1))) rfl rfl (by decide) h582.1 rfl ?_
    have h583 := h582.2
    refine wpc_ldaI (a := 5) (N := 8) (v := (gI s577 6 (ix (gI s577 1 (ix a1))))) rfl rfl (by decide) h583.1 rfl ?_
    have h584 := h583.2
    refine wpc_sl (n := 3) (c' := 14) (pc' := 31) (ls' := [some (.ref 0), some (.int a1), some (.int (v575 ||| (gI s577 6 (ix (gI s577 1 (ix a1))))))]) (st' := [.int (v575 ||| (gI s577 6 (ix (gI s577 1 (ix a1)))))]) (s' := s577) rfl ?_
    exact wpc_ret rfl rfl (fun q => absurd q (by decide)) rfl ⟨(v575 ||| (gI s577 6 (ix (gI s577 1 (ix a1))))), rfl, h584⟩
theorem c15_in (a1 : Int32) (s : St) (Q : St → Prop) (h : calI PP 13 14 [.ref 0, .int a1] s (fun v556 s555 => inb 16 a1 ∧ wpcV PP 15 cm15 14 16 [some (.ref 0), some (.int a1), some (.int v556), some (.int (gI s555 1 (ix a1))), some (.int (0 : Int32)), none, none] [] s555 Q)) : calV PP 15 14 [.ref 0, .int a1] s Q := by
  refine cal_of (me := cm15) (ls := [some (.ref 0), some (.int a1), none, none, none, none, none]) rfl (Nat.le_of_ble_eq_true rfl) rfl ?_
  refine wpc_sl (n := 2) (c' := 14) (pc' := 2) (ls' := [some (.ref 0), some (.int a1), none, none, none, none, none]) (st' := [.int a1, .ref 0]) (s' := s) rfl ?_
  refine wpc_callI (m' := 13) (me' := cm13) (as := [.int a1]) (r := []) rfl rfl rfl rfl rfl ⟨by decide, (by first | decide | exact Nat.le_of_ble_eq_true rfl), (by first | decide | exact Nat.le_of_ble_eq_true rfl), rfl⟩ (calI.mono h fun v556 s555 h557 => ?_)
  refine wpc_sl (n := 4) (c' := 14) (pc' := 11) (ls' := [some (.ref 0), some (.int a1), some (.int v556), none, none, none, none]) (st' := [.int a1, .ref 1]) (s' := s555) rfl ?_
  refine wpc_ldaI (a := 0) (N := 16) (v := (gI s555 1 (ix a1))) rfl rfl (by decide) h557.1 rfl ?_
  have h558 := h557.2
  refine wpc_sl (n := 3) (c' := 14) (pc' := 16) (ls' := [some (.ref 0), some (.int a1), some (.int v556), some (.int (gI s555 1 (ix a1))), some (.int (0 : Int32)), none, none]) (st' := []) (s' := s555) rfl ?_
  exact h558
theorem c15_16 (x1 : Int32) (x2 : Int32) (x3 : Int32) (x4 : Int32) (s : St) (Q : St → Prop) (h : (((gI s 0 16) < x4) → Q s) ∧ (¬ ((gI s 0 16) < x4) → ((((x2 >>> (x4 &&& 31)) &&& (1 : Int32)) = (0 : Int32)) → wpcV PP 15 cm15 14 117 [some (.ref 0), some (.int x1), some (.int x2), some (.int x3), some (.int x4), none, none] [] s Q) ∧ (¬ (((x2 >>> (x4 &&& 31)) &&& (1 : Int32)) = (0 : Int32)) → inb 128 ((x3 * (16 : Int32)) + x4) ∧ (((gI s 7 (ix ((x3 * (16 : Int32)) + x4))) < (0 : Int32)) → inb 128 ((x3 * (16 : Int32)) + x4) ∧ wpcV PP 15 cm15 14 117 [some (.ref 0), some (.int x1), some (.int x2), some (.int x3), some (.int x4), none, none] [] (sI s 7 (ix ((x3 * (16 : Int32)) + x4)) x1) Q) ∧ (¬ ((gI s 7 (ix ((x3 * (16 : Int32)) + x4))) < (0 : Int32)) → (((gI s 0 20) < (256 : Int32)) → inb 256 (gI s 0 20) ∧ wpcV PP 15 cm15 14 117 [some (.ref 0), some (.int x1), some (.int x2), some (.int x3), some (.int x4), none, none] [] (sI (sI s 8 (ix (gI s 0 20)) ((((x3 <<< ((16 : Int32) &&& 31)) ||| (x4 <<< ((8 : Int32) &&& 31))) ||| ((gI s 7 (ix ((x3 * (16 : Int32)) + x4))) <<< ((4 : Int32) &&& 31))) ||| x1)) 0 20 ((gI s 0 20) + (1 : Int32))) Q) ∧ (¬ ((gI s 0 20) < (256 : Int32)) → wpcV PP 15 cm15 14 117 [some (.ref 0), some (.int x1), some (.int x2), some (.int x3), some (.int x4), none, none] [] s Q))))) : wpcV PP 15 cm15 14 16 [some (.ref 0), some (.int x1), some (.int x2), some (.int x3), some (.int x4), none, none] [] s Q := by
  refine wpc_sl (n := 3) (c' := 14) (pc' := 22) (ls' := [some (.ref 0), some (.int x1), some (.int x2), some (.int x3), some (.int x4), none, none]) (st' := [.int (gI s 0 16), .int x4]) (s' := s) rfl ?_
  refine wpc_icmp (a := 123) (b := 25) rfl (by decide) rfl rfl (wpc_br (p := (gI s 0 16) < x4) ⟨fun hc559 => ?_, fun hc559 => ?_⟩)
  · have h560 := h.1 hc559
    exact wpc_ret rfl rfl (fun q => absurd q (by decide)) rfl ⟨rfl, h560⟩
  · have h561 := h.2 hc559
    refine wpc_sl (n := 5) (c' := 14) (pc' := 31) (ls' := [some (.ref 0), some (.int x1), some (.int x2), some (.int x3), some (.int x4), none, none]) (st' := [.int ((x2 >>> (x4 &&& 31)) &&& (1 : Int32))]) (s' := s) rfl ?_
    refine wpc_if (a := 37) (b := 34) rfl (by decide) rfl rfl (wpc_br (p := ((x2 >>> (x4 &&& 31)) &&& (1 : Int32)) = (0 : Int32)) ⟨fun hc562 => ?_, fun hc562 => ?_⟩)
    · have h563 := h561.1 hc562
      refine wpc_sl (n := 1) (c' := 14) (pc' := 117) (ls' := [some (.ref 0), some (.int x1), some (.int x2), some (.int x3), some (.int x4), none, none]) (st' := []) (s' := s) rfl ?_
      exact h563
    · have h564 := h561.2 hc562
      refine wpc_sl (n := 9) (c' := 14) (pc' := 52) (ls' := [some (.ref 0), some (.int x1), some (.int x2), some (.int x3), some (.int x4), some (.int ((x3 * (16 : Int32)) + x4)), none]) (st' := [.int ((x3 * (16 : Int32)) + x4), .ref 7]) (s' := s) rfl ?_
      refine wpc_ldaI (a := 6) (N := 128) (v := (gI s 7 (ix ((x3 * (16 : Int32)) + x4)))) rfl rfl (by decide) h564.1 rfl ?_
      have h565 := h564.2
      refine wpc_sl (n := 2) (c' := 14) (pc' := 57) (ls' := [some (.ref 0), some (.int x1), some (.int x2), some (.int x3), some (.int x4), some (.int ((x3 * (16 : Int32)) + x4)), some (.int (gI s 7 (ix ((x3 * (16 : Int32)) + x4))))]) (st' := [.int (gI s 7 (ix ((x3 * (16 : Int32)) + x4)))]) (s' := s) rfl ?_
      refine wpc_if (a := 71) (b := 60) rfl (by decide) rfl rfl (wpc_br (p := (gI s 7 (ix ((x3 * (16 : Int32)) + x4))) < (0 : Int32)) ⟨fun hc566 => ?_, fun hc566 => ?_⟩)
      · have h567 := h565.1 hc566
        refine wpc_sl (n := 4) (c' := 14) (pc' := 67) (ls' := [some (.ref 0), some (.int x1), some (.int x2), some (.int x3), some (.int x4), some (.int ((x3 * (16 : Int32)) + x4)), some (.int (gI s 7 (ix ((x3 * (16 : Int32)) + x4))))]) (st' := [.int x1, .int ((x3 * (16 : Int32)) + x4), .ref 7]) (s' := s) rfl ?_
        refine wpc_staI (a := 6) (N := 128) (s' := (sI s 7 (ix ((x3 * (16 : Int32)) + x4)) x1)) rfl rfl (by decide) h567.1 rfl ?_
        have h569 := h567.2
        refine wpc_sl (n := 1) (c' := 14) (pc' := 117) (ls' := [some (.ref 0), some (.int x1), some (.int x2), some (.int x3), some (.int x4), some (.int ((x3 * (16 : Int32)) + x4)), some (.int (gI s 7 (ix ((x3 * (16 : Int32)) + x4))))]) (st' := []) (s' := (sI s 7 (ix ((x3 * (16 : Int32)) + x4)) x1)) rfl ?_
        exact wpc_lle (ls := [some (.ref 0), some (.int x1), some (.int x2), some (.int x3), some (.int x4), none, none]) ⟨rfl, rfl, rfl, rfl, rfl, trivial⟩ h569
      · have h568 := h565.2 hc566
        refine wpc_sl (n := 3) (c' := 14) (pc' := 78) (ls' := [some (.ref 0), some (.int x1), some (.int x2), some (.int x3), some (.int x4), some (.int ((x3 * (16 : Int32)) + x4)), some (.int (gI s 7 (ix ((x3 * (16 : Int32)) + x4))))]) (st' := [.int (256 : Int32), .int (gI s 0 20)]) (s' := s) rfl ?_
        refine wpc_icmp (a := 117) (b := 81) rfl (by decide) rfl rfl (wpc_br (p := (gI s 0 20) < (256 : Int32)) ⟨fun hc570 => ?_, fun hc570 => ?_⟩)
        · have h571 := h568.1 hc570
          refine wpc_sl (n := 17) (c' := 14) (pc' := 106) (ls' := [some (.ref 0), some (.int x1), some (.int x2), some (.int x3), some (.int x4), some (.int ((x3 * (16 : Int32)) + x4)), some (.int (gI s 7 (ix ((x3 * (16 : Int32)) + x4))))]) (st' := [.int ((((x3 <<< ((16 : Int32) &&& 31)) ||| (x4 <<< ((8 : Int32) &&& 31))) ||| ((gI s 7 (ix ((x3 * (16 : Int32)) + x4))) <<< ((4 : Int32) &&& 31))) ||| x1), .int (gI s 0 20), .ref 8]) (s' := s) rfl ?_
          refine wpc_staI (a := 7) (N := 256) (s' := (sI s 8 (ix (gI s 0 20)) ((((x3 <<< ((16 : Int32) &&& 31)) ||| (x4 <<< ((8 : Int32) &&& 31))) ||| ((gI s 7 (ix ((x3 * (16 : Int32)) + x4))) <<< ((4 : Int32) &&& 31))) ||| x1))) rfl rfl (by decide) h571.1 rfl ?_
          have h573 := h571.2
          refine wpc_sl (n := 6) (c' := 14) (pc' := 117) (ls' := [some (.ref 0), some (.int x1), some (.int x2), some (.int x3), some (.int x4), some (.int ((x3 * (16 : Int32)) + x4)), some (.int (gI s 7 (ix ((x3 * (16 : Int32)) + x4))))]) (st' := []) (s' := (sI (sI s 8 (ix (gI s 0 20)) ((((x3 <<< ((16 : Int32) &&& 31)) ||| (x4 <<< ((8 : Int32) &&& 31))) ||| ((gI s 7 (ix ((x3 * (16 : Int32)) + x4))) <<< ((4 : Int32) &&& 31))) ||| x1)) 0 20 ((gI s 0 20) + (1 : Int32)))) rfl ?_
          exact wpc_lle (ls := [some (.ref 0), some (.int x1), some (.int x2), some (.int x3), some (.int x4), none, none]) ⟨rfl, rfl, rfl, rfl, rfl, trivial⟩ h573
        · have h572 := h568.2 hc570
          exact wpc_lle (ls := [some (.ref 0), some (.int x1), some (.int x2), some (.int x3), some (.int x4), none, none]) ⟨rfl, rfl, rfl, rfl, rfl, trivial⟩ h572
theorem c15_117 (x1 : Int32) (x2 : Int32) (x3 : Int32) (x4 : Int32) (s : St) (Q : St → Prop) (h : wpcV PP 15 cm15 14 16 [some (.ref 0), some (.int x1), some (.int x2), some (.int x3), some (.int (x4 + (1 : Int32))), none, none] [] s Q) : wpcV PP 15 cm15 14 117 [some (.ref 0), some (.int x1), some (.int x2), some (.int x3), some (.int x4), none, none] [] s Q := by
  refine wpc_sl (n := 2) (c' := 14) (pc' := 16) (ls' := [some (.ref 0), some (.int x1), some (.int x2), some (.int x3), some (.int (x4 + (1 : Int32))), none, none]) (st' := []) (s' := s) rfl ?_
  exact h
theorem c14_in  (s : St) (Q : St → Prop) (h : wpcV PP 14 cm14 14 2 [some (.ref 0), some (.int (0 : Int32))] [] s Q) : calV PP 14 14 [.ref 0] s Q := by
  refine cal_of (me := cm14) (ls := [some (.ref 0), none]) rfl (Nat.le_of_ble_eq_true rfl) rfl ?_
  refine wpc_sl (n := 2) (c' := 14) (pc' := 2) (ls' := [some (.ref 0), some (.int (0 : Int32))]) (st' := []) (s' := s) rfl ?_
  exact h
theorem c14_2 (x1 : Int32) (s : St) (Q : St → Prop) (h : ((x1 < (128 : Int32)) → inb 128 x1 ∧ wpcV PP 14 cm14 14 2 [some (.ref 0), some (.int (x1 + (1 : Int32)))] [] (sI s 7 (ix x1) (-1 : Int32)) Q) ∧ (¬ (x1 < (128 : Int32)) → wpcV PP 14 cm14 14 24 [some (.ref 0), some (.int (0 : Int32))] [] s Q)) : wpcV PP 14 cm14 14 2 [some (.ref 0), some (.int x1)] [] s Q := by
  refine wpc_sl (n := 2) (c' := 14) (pc' := 6) (ls' := [some (.ref 0), some (.int x1)]) (st' := [.int (128 : Int32), .int x1]) (s' := s) rfl ?_
  refine wpc_icmp (a := 22) (b := 9) rfl (by decide) rfl rfl (wpc_br (p := x1 < (128 : Int32)) ⟨fun hc545 => ?_, fun hc545 => ?_⟩)
  · have h546 := h.1 hc545
    refine wpc_sl (n := 4) (c' := 14) (pc' := 15) (ls' := [some (.ref 0), some (.int x1)]) (st' := [.int (-1 : Int32), .int x1, .ref 7]) (s' := s) rfl ?_
    refine wpc_staI (a := 6) (N := 128) (s' := (sI s 7 (ix x1) (-1 : Int32))) rfl rfl (by decide) h546.1 rfl ?_
    have h548 := h546.2
    refine wpc_sl (n := 2) (c' := 14) (pc' := 2) (ls' := [some (.ref 0), some (.int (x1 + (1 : Int32)))]) (st' := []) (s' := (sI s 7 (ix x1) (-1 : Int32))) rfl ?_
    exact h548
  · have h547 := h.2 hc545
    refine wpc_sl (n := 2) (c' := 14) (pc' := 24) (ls' := [some (.ref 0), some (.int (0 : Int32))]) (st' := []) (s' := s) rfl ?_
    exact h547
theorem c14_24 (x1 : Int32) (s : St) (Q : St → Prop) (h : ((x1 < (gI s 0 17)) → calV PP 15 14 [.ref 0, .int x1] s (fun s552 => wpcV PP 14 cm14 14 24 [some (.ref 0), some (.int (x1 + (1 : Int32)))] [] s552 Q)) ∧ (¬ (x1 < (gI s 0 17)) → Q s)) : wpcV PP 14 cm14 14 24 [some (.ref 0), some (.int x1)] [] s Q := by
  refine wpc_sl (n := 3) (c' := 14) (pc' := 29) (ls' := [some (.ref 0), some (.int x1)]) (st' := [.int (gI s 0 17), .int x1]) (s' := s) rfl ?_
  refine wpc_icmp (a := 43) (b := 32) rfl (by decide) rfl rfl (wpc_br (p := x1 < (gI s 0 17)) ⟨fun hc549 => ?_, fun hc549 => ?_⟩)
  · have h550 := h.1 hc549
    refine wpc_sl (n := 2) (c' := 14) (pc' := 34) (ls' := [some (.ref 0), some (.int x1)]) (st' := [.int x1, .ref 0]) (s' := s) rfl ?_
    refine wpc_callV (m' := 15) (me' := cm15) (as := [.int x1]) (r := []) rfl rfl rfl rfl rfl ⟨by decide, (by first | decide | exact Nat.le_of_ble_eq_true rfl), (by first | decide | exact Nat.le_of_ble_eq_true rfl), rfl⟩ (calV.mono h550 fun s552 h554 => ?_)
    refine wpc_sl (n := 2) (c' := 14) (pc' := 24) (ls' := [some (.ref 0), some (.int (x1 + (1 : Int32)))]) (st' := []) (s' := s552) rfl ?_
    exact h554
  · have h551 := h.2 hc549
    exact wpc_ret rfl rfl (fun q => absurd q (by decide)) rfl ⟨rfl, h551⟩
theorem c6_in  (s : St) (Q : Int32 → St → Prop) (h : (((gI s 0 24) = (0 : Int32)) → wpcI PP 6 cm6 14 16 [some (.ref 0), some (.int (0 : Int32))] [] (sI s 0 24 (1 : Int32)) Q) ∧ (¬ ((gI s 0 24) = (0 : Int32)) → Q (-1 : Int32) s)) : calI PP 6 14 [.ref 0] s Q := by
  refine cal_of (me := cm6) (ls := [some (.ref 0), none]) rfl (Nat.le_of_ble_eq_true rfl) rfl ?_
  refine wpc_sl (n := 2) (c' := 14) (pc' := 4) (ls' := [some (.ref 0), none]) (st' := [.int (gI s 0 24)]) (s' := s) rfl ?_
  refine wpc_if (a := 9) (b := 7) rfl (by decide) rfl rfl (wpc_br (p := (gI s 0 24) = (0 : Int32)) ⟨fun hc421 => ?_, fun hc421 => ?_⟩)
  · have h422 := h.1 hc421
    refine wpc_sl (n := 5) (c' := 14) (pc' := 16) (ls' := [some (.ref 0), some (.int (0 : Int32))]) (st' := []) (s' := (sI s 0 24 (1 : Int32))) rfl ?_
    exact h422
  · have h423 := h.2 hc421
    refine wpc_sl (n := 1) (c' := 14) (pc' := 8) (ls' := [some (.ref 0), none]) (st' := [.int (-1 : Int32)]) (s' := s) rfl ?_
    exact wpc_ret rfl rfl (fun q => absurd q (by decide)) rfl ⟨(-1 : Int32), rfl, h423⟩
theorem c6_16 (x1 : Int32) (s : St) (Q : Int32 → St → Prop) (h : ((x1 < (64 : Int32)) → calI PP 9 14 [.ref 0] s (fun v428 s427 => ((v428 = (0 : Int32)) → wpcI PP 6 cm6 14 38 [some (.ref 0), none] [] s427 Q) ∧ (¬ (v428 = (0 : Int32)) → wpcI PP 6 cm6 14 16 [some (.ref 0), some (.int (x1 + (1 : Int32)))] [] s427 Q))) ∧ (¬ (x1 < (64 : Int32)) → wpcI PP 6 cm6 14 38 [some (.ref 0), none] [] s Q)) : wpcI PP 6 cm6 14 16 [some (.ref 0), some (.int x1)] [] s Q := by
  refine wpc_sl (n := 2) (c' := 14) (pc' := 19) (ls' := [some (.ref 0), some (.int x1)]) (st' := [.int (64 : Int32), .int x1]) (s' := s) rfl ?_
  refine wpc_icmp (a := 38) (b := 22) rfl (by decide) rfl rfl (wpc_br (p := x1 < (64 : Int32)) ⟨fun hc424 => ?_, fun hc424 => ?_⟩)
  · have h425 := h.1 hc424
    refine wpc_sl (n := 1) (c' := 14) (pc' := 23) (ls' := [some (.ref 0), some (.int x1)]) (st' := [.ref 0]) (s' := s) rfl ?_
    refine wpc_callI (m' := 9) (me' := cm9) (as := []) (r := []) rfl rfl rfl rfl rfl ⟨by decide, (by first | decide | exact Nat.le_of_ble_eq_true rfl), (by first | decide | exact Nat.le_of_ble_eq_true rfl), rfl⟩ (calI.mono h425 fun v428 s427 h429 => ?_)
    refine wpc_if (a := 32) (b := 29) rfl (by decide) rfl rfl (wpc_br (p := v428 = (0 : Int32)) ⟨fun hc430 => ?_, fun hc430 => ?_⟩)
    · have h431 := h429.1 hc430
      refine wpc_sl (n := 1) (c' := 14) (pc' := 38) (ls' := [some (.ref 0), some (.int x1)]) (st' := []) (s' := s427) rfl ?_
      exact wpc_lle (ls := [some (.ref 0), none]) ⟨rfl, trivial⟩ h431
    · have h432 := h429.2 hc430
      refine wpc_sl (n := 2) (c' := 14) (pc' := 16) (ls' := [some (.ref 0), some (.int (x1 + (1 : Int32)))]) (st' := []) (s' := s427) rfl ?_
      exact h432
  · have h426 := h.2 hc424
    exact wpc_lle (ls := [some (.ref 0), none]) ⟨rfl, trivial⟩ h426
theorem c6_38  (s : St) (Q : Int32 → St → Prop) (h : wpcI PP 6 cm6 14 40 [some (.ref 0), some (.int (0 : Int32))] [] s Q) : wpcI PP 6 cm6 14 38 [some (.ref 0), none] [] s Q := by
  refine wpc_sl (n := 2) (c' := 14) (pc' := 40) (ls' := [some (.ref 0), some (.int (0 : Int32))]) (st' := []) (s' := s) rfl ?_
  exact h
theorem c6_40 (x1 : Int32) (s : St) (Q : Int32 → St → Prop) (h : ((x1 < (256 : Int32)) → calI PP 10 14 [.ref 0] s (fun v437 s436 => ((v437 = (0 : Int32)) → wpcI PP 6 cm6 14 63 [some (.ref 0), none] [] s436 Q) ∧ (¬ (v437 = (0 : Int32)) → wpcI PP 6 cm6 14 40 [some (.ref 0), some (.int (x1 + (1 : Int32)))] [] s436 Q))) ∧ (¬ (x1 < (256 : Int32)) → wpcI PP 6 cm6 14 63 [some (.ref 0), none] [] s Q)) : wpcI PP 6 cm6 14 40 [some (.ref 0), some (.int x1)] [] s Q := by
  refine wpc_sl (n := 2) (c' := 14) (pc' := 44) (ls' := [some (.ref 0), some (.int x1)]) (st' := [.int (256 : Int32), .int x1]) (s' := s) rfl ?_
  refine wpc_icmp (a := 63) (b := 47) rfl (by decide) rfl rfl (wpc_br (p := x1 < (256 : Int32)) ⟨fun hc433 => ?_, fun hc433 => ?_⟩)
  · have h434 := h.1 hc433
    refine wpc_sl (n := 1) (c' := 14) (pc' := 48) (ls' := [some (.ref 0), some (.int x1)]) (st' := [.ref 0]) (s' := s) rfl ?_
    refine wpc_callI (m' := 10) (me' := cm10) (as := []) (r := []) rfl rfl rfl rfl rfl ⟨by decide, (by first | decide | exact Nat.le_of_ble_eq_true rfl), (by first | decide | exact Nat.le_of_ble_eq_true rfl), rfl⟩ (calI.mono h434 fun v437 s436 h438 => ?_)
    refine wpc_if (a := 57) (b := 54) rfl (by decide) rfl rfl (wpc_br (p := v437 = (0 : Int32)) ⟨fun hc439 => ?_, fun hc439 => ?_⟩)
    · have h440 := h438.1 hc439
      refine wpc_sl (n := 1) (c' := 14) (pc' := 63) (ls' := [some (.ref 0), some (.int x1)]) (st' := []) (s' := s436) rfl ?_
      exact wpc_lle (ls := [some (.ref 0), none]) ⟨rfl, trivial⟩ h440
    · have h441 := h438.2 hc439
      refine wpc_sl (n := 2) (c' := 14) (pc' := 40) (ls' := [some (.ref 0), some (.int (x1 + (1 : Int32)))]) (st' := []) (s' := s436) rfl ?_
      exact h441
  · have h435 := h.2 hc433
    exact wpc_lle (ls := [some (.ref 0), none]) ⟨rfl, trivial⟩ h435
theorem c6_63  (s : St) (Q : Int32 → St → Prop) (h : inb 8 (0 : Int32) ∧ wpcI PP 6 cm6 14 72 [some (.ref 0), some (.int (0 : Int32))] [] (sI s 6 (ix (0 : Int32)) (1 : Int32)) Q) : wpcI PP 6 cm6 14 63 [some (.ref 0), none] [] s Q := by
  refine wpc_sl (n := 4) (c' := 14) (pc' := 69) (ls' := [some (.ref 0), none]) (st' := [.int (1 : Int32), .int (0 : Int32), .ref 6]) (s' := s) rfl ?_
  refine wpc_staI (a := 5) (N := 8) (s' := (sI s 6 (ix (0 : Int32)) (1 : Int32))) rfl rfl (by decide) h.1 rfl ?_
  have h442 := h.2
  refine wpc_sl (n := 2) (c' := 14) (pc' := 72) (ls' := [some (.ref 0), some (.int (0 : Int32))]) (st' := []) (s' := (sI s 6 (ix (0 : Int32)) (1 : Int32))) rfl ?_
  exact h442
theorem c6_72 (x1 : Int32) (s : St) (Q : Int32 → St → Prop) (h : ((x1 < (256 : Int32)) → calI PP 11 14 [.ref 0] s (fun v447 s446 => ((v447 = (0 : Int32)) → wpcI PP 6 cm6 14 95 [some (.ref 0), none] [] s446 Q) ∧ (¬ (v447 = (0 : Int32)) → wpcI PP 6 cm6 14 72 [some (.ref 0), some (.int (x1 + (1 : Int32)))] [] s446 Q))) ∧ (¬ (x1 < (256 : Int32)) → wpcI PP 6 cm6 14 95 [some (.ref 0), none] [] s Q)) : wpcI PP 6 cm6 14 72 [some (.ref 0), some (.int x1)] [] s Q := by
  refine wpc_sl (n := 2) (c' := 14) (pc' := 76) (ls' := [some (.ref 0), some (.int x1)]) (st' := [.int (256 : Int32), .int x1]) (s' := s) rfl ?_
  refine wpc_icmp (a := 95) (b := 79) rfl (by decide) rfl rfl (wpc_br (p := x1 < (256 : Int32)) ⟨fun hc443 => ?_, fun hc443 => ?_⟩)
  · have h444 := h.1 hc443
    refine wpc_sl (n := 1) (c' := 14) (pc' := 80) (ls' := [some (.ref 0), some (.int x1)]) (st' := [.ref 0]) (s' := s) rfl ?_
    refine wpc_callI (m' := 11) (me' := cm11) (as := []) (r := []) rfl rfl rfl rfl rfl ⟨by decide, (by first | decide | exact Nat.le_of_ble_eq_true rfl), (by first | decide | exact Nat.le_of_ble_eq_true rfl), rfl⟩ (calI.mono h444 fun v447 s446 h448 => ?_)
    refine wpc_if (a := 89) (b := 86) rfl (by decide) rfl rfl (wpc_br (p := v447 = (0 : Int32)) ⟨fun hc449 => ?_, fun hc449 => ?_⟩)
    · have h450 := h448.1 hc449
      refine wpc_sl (n := 1) (c' := 14) (pc' := 95) (ls' := [some (.ref 0), some (.int x1)]) (st' := []) (s' := s446) rfl ?_
      exact wpc_lle (ls := [some (.ref 0), none]) ⟨rfl, trivial⟩ h450
    · have h451 := h448.2 hc449
      refine wpc_sl (n := 2) (c' := 14) (pc' := 72) (ls' := [some (.ref 0), some (.int (x1 + (1 : Int32)))]) (st' := []) (s' := s446) rfl ?_
      exact h451
  · have h445 := h.2 hc443
    exact wpc_lle (ls := [some (.ref 0), none]) ⟨rfl, trivial⟩ h445
theorem c6_95  (s : St) (Q : Int32 → St → Prop) (h : calV PP 14 14 [.ref 0] s (fun s452 => Q (gI s452 0 20) s452)) : wpcI PP 6 cm6 14 95 [some (.ref 0), none] [] s Q := by
  refine wpc_sl (n := 1) (c' := 14) (pc' := 96) (ls' := [some (.ref 0), none]) (st' := [.ref 0]) (s' := s) rfl ?_
  refine wpc_callV (m' := 14) (me' := cm14) (as := []) (r := []) rfl rfl rfl rfl rfl ⟨by decide, (by first | decide | exact Nat.le_of_ble_eq_true rfl), (by first | decide | exact Nat.le_of_ble_eq_true rfl), rfl⟩ (calV.mono h fun s452 h454 => ?_)
  refine wpc_sl (n := 2) (c' := 14) (pc' := 103) (ls' := [some (.ref 0), none]) (st' := [.int (gI s452 0 20)]) (s' := s452) rfl ?_
  exact wpc_ret rfl rfl (fun q => absurd q (by decide)) rfl ⟨(gI s452 0 20), rfl, h454⟩
theorem c23_in  (s : St) (Q : Int32 → St → Prop) (h : (((gI s 0 23) < (0 : Int32)) → Q (0 : Int32) s) ∧ (¬ ((gI s 0 23) < (0 : Int32)) → (((gI s 0 23) < (gI s 0 18)) → (((gI s 0 23) < (32 : Int32)) → inb 32 (gI s 0 23) ∧ Q (gI s 9 (ix (gI s 0 23))) s) ∧ (¬ ((gI s 0 23) < (32 : Int32)) → Q (0 : Int32) s)) ∧ (¬ ((gI s 0 23) < (gI s 0 18)) → Q (0 : Int32) s))) : calI PP 23 14 [.ref 0] s Q := by
  refine cal_of (me := cm23) (ls := [some (.ref 0)]) rfl (Nat.le_of_ble_eq_true rfl) rfl ?_
  refine wpc_sl (n := 2) (c' := 14) (pc' := 4) (ls' := [some (.ref 0)]) (st' := [.int (gI s 0 23)]) (s' := s) rfl ?_
  refine wpc_if (a := 37) (b := 7) rfl (by decide) rfl rfl (wpc_br (p := (gI s 0 23) < (0 : Int32)) ⟨fun hc631 => ?_, fun hc631 => ?_⟩)
  · have h632 := h.1 hc631
    refine wpc_sl (n := 1) (c' := 14) (pc' := 38) (ls' := [some (.ref 0)]) (st' := [.int (0 : Int32)]) (s' := s) rfl ?_
    exact wpc_ret rfl rfl (fun q => absurd q (by decide)) rfl ⟨(0 : Int32), rfl, h632⟩
  · have h633 := h.2 hc631
    refine wpc_sl (n := 4) (c' := 14) (pc' := 15) (ls' := [some (.ref 0)]) (st' := [.int (gI s 0 18), .int (gI s 0 23)]) (s' := s) rfl ?_
    refine wpc_icmp (a := 37) (b := 18) rfl (by decide) rfl rfl (wpc_br (p := (gI s 0 23) < (gI s 0 18)) ⟨fun hc634 => ?_, fun hc634 => ?_⟩)
    · have h635 := h633.1 hc634
      refine wpc_sl (n := 3) (c' := 14) (pc' := 24) (ls' := [some (.ref 0)]) (st' := [.int (32 : Int32), .int (gI s 0 23)]) (s' := s) rfl ?_
      refine wpc_icmp (a := 37) (b := 27) rfl (by decide) rfl rfl (wpc_br (p := (gI s 0 23) < (32 : Int32)) ⟨fun hc637 => ?_, fun hc637 => ?_⟩)
      · have h638 := h635.1 hc637
        refine wpc_sl (n := 4) (c' := 14) (pc' := 35) (ls' := [some (.ref 0)]) (st' := [.int (gI s 0 23), .ref 9]) (s' := s) rfl ?_
        refine wpc_ldaI (a := 8) (N := 32) (v := (gI s 9 (ix (gI s 0 23)))) rfl rfl (by decide) h638.1 rfl ?_
        have h640 := h638.2
        exact wpc_ret rfl rfl (fun q => absurd q (by decide)) rfl ⟨(gI s 9 (ix (gI s 0 23))), rfl, h640⟩
      · have h639 := h635.2 hc637
        refine wpc_sl (n := 1) (c' := 14) (pc' := 38) (ls' := [some (.ref 0)]) (st' := [.int (0 : Int32)]) (s' := s) rfl ?_
        exact wpc_ret rfl rfl (fun q => absurd q (by decide)) rfl ⟨(0 : Int32), rfl, h639⟩
    · have h636 := h633.2 hc634
      refine wpc_sl (n := 1) (c' := 14) (pc' := 38) (ls' := [some (.ref 0)]) (st' := [.int (0 : Int32)]) (s' := s) rfl ?_
      exact wpc_ret rfl rfl (fun q => absurd q (by decide)) rfl ⟨(0 : Int32), rfl, h636⟩
theorem c24_in (a1 : Int32) (a2 : Int32) (a3 : Int32) (s : St) (Q : St → Prop) (h : (((gI s 0 21) < (0 : Int32)) → wpcV PP 24 cm24 14 36 [some (.ref 0), none, none, none] [] s Q) ∧ (¬ ((gI s 0 21) < (0 : Int32)) → (((gI s 0 21) < (64 : Int32)) → inb 64 (gI s 0 21) ∧ wpcV PP 24 cm24 14 36 [some (.ref 0), none, none, none] [] (sI s 14 (ix (gI s 0 21)) (((a1 <<< ((16 : Int32) &&& 31)) ||| (a2 <<< ((8 : Int32) &&& 31))) ||| a3)) Q) ∧ (¬ ((gI s 0 21) < (64 : Int32)) → wpcV PP 24 cm24 14 36 [some (.ref 0), none, none, none] [] s Q))) : calV PP 24 14 [.ref 0, .int a1, .int a2, .int a3] s Q := by
  refine cal_of (me := cm24) (ls := [some (.ref 0), some (.int a1), some (.int a2), some (.int a3)]) rfl (Nat.le_of_ble_eq_true rfl) rfl ?_
  refine wpc_sl (n := 2) (c' := 14) (pc' := 4) (ls' := [some (.ref 0), some (.int a1), some (.int a2), some (.int a3)]) (st' := [.int (gI s 0 21)]) (s' := s) rfl ?_
  refine wpc_if (a := 36) (b := 7) rfl (by decide) rfl rfl (wpc_br (p := (gI s 0 21) < (0 : Int32)) ⟨fun hc641 => ?_, fun hc641 => ?_⟩)
  · have h642 := h.1 hc641
    exact wpc_lle (ls := [some (.ref 0), none, none, none]) ⟨rfl, trivial⟩ h642
  · have h643 := h.2 hc641
    refine wpc_sl (n := 3) (c' := 14) (pc' := 13) (ls' := [some (.ref 0), some (.int a1), some (.int a2), some (.int a3)]) (st' := [.int (64 : Int32), .int (gI s 0 21)]) (s' := s) rfl ?_
    refine wpc_icmp (a := 36) (b := 16) rfl (by decide) rfl rfl (wpc_br (p := (gI s 0 21) < (64 : Int32)) ⟨fun hc644 => ?_, fun hc644 => ?_⟩)
    · have h645 := h643.1 hc644
      refine wpc_sl (n := 13) (c' := 14) (pc' := 35) (ls' := [some (.ref 0), some (.int a1), some (.int a2), some (.int a3)]) (st' := [.int (((a1 <<< ((16 : Int32) &&& 31)) ||| (a2 <<< ((8 : Int32) &&& 31))) ||| a3), .int (gI s 0 21), .ref 14]) (s' := s) rfl ?_
      refine wpc_staI (a := 13) (N := 64) (s' := (sI s 14 (ix (gI s 0 21)) (((a1 <<< ((16 : Int32) &&& 31)) ||| (a2 <<< ((8 : Int32) &&& 31))) ||| a3))) rfl rfl (by decide) h645.1 rfl ?_
      have h647 := h645.2
      exact wpc_lle (ls := [some (.ref 0), none, none, none]) ⟨rfl, trivial⟩ h647
    · have h646 := h643.2 hc644
      exact wpc_lle (ls := [some (.ref 0), none, none, none]) ⟨rfl, trivial⟩ h646
theorem c24_36  (s : St) (Q : St → Prop) (h : Q (sI s 0 21 ((gI s 0 21) + (1 : Int32)))) : wpcV PP 24 cm24 14 36 [some (.ref 0), none, none, none] [] s Q := by
  refine wpc_sl (n := 6) (c' := 14) (pc' := 46) (ls' := [some (.ref 0), none, none, none]) (st' := []) (s' := (sI s 0 21 ((gI s 0 21) + (1 : Int32)))) rfl ?_
  exact wpc_ret rfl rfl (fun q => absurd q (by decide)) rfl ⟨rfl, h⟩
theorem c26_in (a1 : Int32) (a2 : Int32) (s : St) (Q : St → Prop) (h : calI PP 23 14 [.ref 0] s (fun v622 s621 => ((a2 = v622) → inb 256 a1 ∧ wpcV PP 26 cm26 14 43 [some (.ref 0), none, none, none] [] (sI (sI s621 12 (ix a1) (gI s621 0 23)) 0 23 ((gI s621 0 23) + (1 : Int32))) Q) ∧ (¬ (a2 = v622) → calV PP 24 14 [.ref 0, .int (1 : Int32), .int (gI s621 0 23), .int a2] s621 (fun s628 => wpcV PP 26 cm26 14 43 [some (.ref 0), none, none, none] [] s628 Q)))) : calV PP 26 14 [.ref 0, .int a1, .int a2] s Q := by
  refine cal_of (me := cm26) (ls := [some (.ref 0), some (.int a1), some (.int a2), none]) rfl (Nat.le_of_ble_eq_true rfl) rfl ?_
  refine wpc_sl (n := 1) (c' := 14) (pc' := 1) (ls' := [some (.ref 0), some (.int a1), some (.int a2), none]) (st' := [.ref 0]) (s' := s) rfl ?_
  refine wpc_callI (m' := 23) (me' := cm23) (as := []) (r := []) rfl rfl rfl rfl rfl ⟨by decide, (by first | decide | exact Nat.le_of_ble_eq_true rfl), (by first | decide | exact Nat.le_of_ble_eq_true rfl), rfl⟩ (calI.mono h fun v622 s621 h623 => ?_)
  refine wpc_sl (n := 3) (c' := 14) (pc' := 7) (ls' := [some (.ref 0), some (.int a1), some (.int a2), some (.int v622)]) (st' := [.int v622, .int a2]) (s' := s621) rfl ?_
  refine wpc_icmp (a := 33) (b := 10) rfl (by decide) rfl rfl (wpc_br (p := a2 = v622) ⟨fun hc624 => ?_, fun hc624 => ?_⟩)
  · have h625 := h623.1 hc624
    refine wpc_sl (n := 5) (c' := 14) (pc' := 19) (ls' := [some (.ref 0), some (.int a1), some (.int a2), some (.int v622)]) (st' := [.int (gI s621 0 23), .int a1, .ref 12]) (s' := s621) rfl ?_
    refine wpc_staI (a := 11) (N := 256) (s' := (sI s621 12 (ix a1) (gI s621 0 23))) rfl rfl (by decide) h625.1 rfl ?_
    have h627 := h625.2
    refine wpc_sl (n := 7) (c' := 14) (pc' := 43) (ls' := [some (.ref 0), some (.int a1), some (.int a2), some (.int v622)]) (st' := []) (s' := (sI (sI s621 12 (ix a1) (gI s621 0 23)) 0 23 ((gI s621 0 23) + (1 : Int32)))) rfl ?_
    exact wpc_lle (ls := [some (.ref 0), none, none, none]) ⟨rfl, trivial⟩ h627
  · have h626 := h623.2 hc624
    refine wpc_sl (n := 5) (c' := 14) (pc' := 40) (ls' := [some (.ref 0), some (.int a1), some (.int a2), some (.int v622)]) (st' := [.int a2, .int (gI s621 0 23), .int (1 : Int32), .ref 0]) (s' := s621) rfl ?_
    refine wpc_callV (m' := 24) (me' := cm24) (as := [.int (1 : Int32), .int (gI s621 0 23), .int a2]) (r := []) rfl rfl rfl rfl rfl ⟨by decide, (by first | decide | exact Nat.le_of_ble_eq_true rfl), (by first | decide | exact Nat.le_of_ble_eq_true rfl), rfl⟩ (calV.mono h626 fun s628 h630 => ?_)
    exact wpc_lle (ls := [some (.ref 0), none, none, none]) ⟨rfl, trivial⟩ h630
theorem c26_43  (s : St) (Q : St → Prop) (h : Q (sI s 0 22 ((gI s 0 22) - (1 : Int32)))) : wpcV PP 26 cm26 14 43 [some (.ref 0), none, none, none] [] s Q := by
  refine wpc_sl (n := 6) (c' := 14) (pc' := 53) (ls' := [some (.ref 0), none, none, none]) (st' := []) (s' := (sI s 0 22 ((gI s 0 22) - (1 : Int32)))) rfl ?_
  exact wpc_ret rfl rfl (fun q => absurd q (by decide)) rfl ⟨rfl, h⟩
theorem c30_in (a1 : Int32) (s : St) (Q : Int32 → St → Prop) (h : inb 8 a1 ∧ inb 8 a1 ∧ wpcI PP 30 cm30 14 18 [some (.ref 0), none, some (.int (((gI s 5 (ix a1)) ||| (gI s 6 (ix a1))) ||| (1 : Int32))), some (.int (0 : Int32)), none] [] s Q) : calI PP 30 14 [.ref 0, .int a1] s Q := by
  refine cal_of (me := cm30) (ls := [some (.ref 0), some (.int a1), none, none, none]) rfl (Nat.le_of_ble_eq_true rfl) rfl ?_
  refine wpc_sl (n := 3) (c' := 14) (pc' := 5) (ls' := [some (.ref 0), some (.int a1), none, none, none]) (st' := [.int a1, .ref 5]) (s' := s) rfl ?_
  refine wpc_ldaI (a := 4) (N := 8) (v := (gI s 5 (ix a1))) rfl rfl (by decide) h.1 rfl ?_
  have h686 := h.2
  refine wpc_sl (n := 3) (c' := 14) (pc' := 11) (ls' := [some (.ref 0), some (.int a1), none, none, none]) (st' := [.int a1, .ref 6, .int (gI s 5 (ix a1))]) (s' := s) rfl ?_
  refine wpc_ldaI (a := 5) (N := 8) (v := (gI s 6 (ix a1))) rfl rfl (by decide) h686.1 rfl ?_
  have h687 := h686.2
  refine wpc_sl (n := 6) (c' := 14) (pc' := 18) (ls' := [some (.ref 0), some (.int a1), some (.int (((gI s 5 (ix a1)) ||| (gI s 6 (ix a1))) ||| (1 : Int32))), some (.int (0 : Int32)), none]) (st' := []) (s' := s) rfl ?_
  exact wpc_lle (ls := [some (.ref 0), none, some (.int (((gI s 5 (ix a1)) ||| (gI s 6 (ix a1))) ||| (1 : Int32))), some (.int (0 : Int32)), none]) ⟨rfl, rfl, rfl, trivial⟩ h687
theorem c30_18 (x2 : Int32) (x3 : Int32) (s : St) (Q : Int32 → St → Prop) (h : ((x3 < ((gI s 0 22) - (1 : Int32))) → ((x3 < (256 : Int32)) → inb 256 x3 ∧ inb 256 (gI s 13 (ix x3)) ∧ (((gI s 10 (ix (gI s 13 (ix x3)))) < (16 : Int32)) → wpcI PP 30 cm30 14 78 [some (.ref 0), none, some (.int (x2 ||| ((1 : Int32) <<< ((gI s 10 (ix (gI s 13 (ix x3)))) &&& 31)))), some (.int x3), none] [] s Q) ∧ (¬ ((gI s 10 (ix (gI s 13 (ix x3)))) < (16 : Int32)) → inb 8 ((gI s 10 (ix (gI s 13 (ix x3)))) - (16 : Int32)) ∧ wpcI PP 30 cm30 14 78 [some (.ref 0), none, some (.int (x2 ||| (gI s 5 (ix ((gI s 10 (ix (gI s 13 (ix x3)))) - (16 : Int32)))))), some (.int x3), none] [] s Q)) ∧ (¬ (x3 < (256 : Int32)) → Q x2 s)) ∧ (¬ (x3 < ((gI s 0 22) - (1 : Int32))) → Q x2 s)) : wpcI PP 30 cm30 14 18 [some (.ref 0), none, some (.int x2), some (.int x3), none] [] s Q := by
  refine wpc_sl (n := 5) (c' := 14) (pc' := 25) (ls' := [some (.ref 0), none, some (.int x2), some (.int x3), none]) (st' := [.int ((gI s 0 22) - (1 : Int32)), .int x3]) (s' := s) rfl ?_
  refine wpc_icmp (a := 84) (b := 28) rfl (by decide) rfl rfl (wpc_br (p := x3 < ((gI s 0 22) - (1 : Int32))) ⟨fun hc688 => ?_, fun hc688 => ?_⟩)
  · have h689 := h.1 hc688
    refine wpc_sl (n := 2) (c' := 14) (pc' := 32) (ls' := [some (.ref 0), none, some (.int x2), some (.int x3), none]) (st' := [.int (256 : Int32), .int x3]) (s' := s) rfl ?_
    refine wpc_icmp (a := 84) (b := 35) rfl (by decide) rfl rfl (wpc_br (p := x3 < (256 : Int32)) ⟨fun hc691 => ?_, fun hc691 => ?_⟩)
    · have h692 := h689.1 hc691
      refine wpc_sl (n := 5) (c' := 14) (pc' := 44) (ls' := [some (.ref 0), none, some (.int x2), some (.int x3), none]) (st' := [.int x3, .ref 13, .ref 10]) (s' := s) rfl ?_
      refine wpc_ldaI (a := 12) (N := 256) (v := (gI s 13 (ix x3))) rfl rfl (by decide) h692.1 rfl ?_
      have h694 := h692.2
      refine wpc_ldaI (a := 9) (N := 256) (v := (gI s 10 (ix (gI s 13 (ix x3))))) rfl rfl (by decide) h694.1 rfl ?_
      have h695 := h694.2
      refine wpc_sl (n := 3) (c' := 14) (pc' := 52) (ls' := [some (.ref 0), none, some (.int x2), some (.int x3), some (.int (gI s 10 (ix (gI s 13 (ix x3)))))]) (st' := [.int (16 : Int32), .int (gI s 10 (ix (gI s 13 (ix x3))))]) (s' := s) rfl ?_
      refine wpc_icmp (a := 65) (b := 55) rfl (by decide) rfl rfl (wpc_br (p := (gI s 10 (ix (gI s 13 (ix x3)))) < (16 : Int32)) ⟨fun hc696 => ?_, fun hc696 => ?_⟩)
      · have h697 := h695.1 hc696
        refine wpc_sl (n := 7) (c' := 14) (pc' := 78) (ls' := [some (.ref 0), none, some (.int (x2 ||| ((1 : Int32) <<< ((gI s 10 (ix (gI s 13 (ix x3)))) &&& 31)))), some (.int x3), some (.int (gI s 10 (ix (gI s 13 (ix x3)))))]) (st' := []) (s' := s) rfl ?_
        exact wpc_lle (ls := [some (.ref 0), none, some (.int (x2 ||| ((1 : Int32) <<< ((gI s 10 (ix (gI s 13 (ix x3)))) &&& 31)))), some (.int x3), none]) ⟨rfl, rfl, rfl, trivial⟩ h697
      · have h698 := h695.2 hc696
        refine wpc_sl (n := 6) (c' := 14) (pc' := 75) (ls' := [some (.ref 0), none, some (.int x2), some (.int x3), some (.int (gI s 10 (ix (gI s 13 (ix x3)))))]) (st' := [.int ((gI s 10 (ix (gI s 13 (ix x3)))) - (16 : Int32)), .ref 5, .int x2]) (s' := s) rfl ?_
        refine wpc_ldaI (a := 4) (N := 8) (v := (gI s 5 (ix ((gI s 10 (ix (gI s 13 (ix x3)))) - (16 : Int32))))) rfl rfl (by decide) h698.1 rfl ?_
        have h699 := h698.2
        refine wpc_sl (n := 2) (c' := 14) (pc' := 78) (ls' := [some (.ref 0), none, some (.int (x2 ||| (gI s 5 (ix ((gI s 10 (ix (gI s 13 (ix x3)))) - (16 : Int32)))))), some (.int x3), some (.int (gI s 10 (ix (gI s 13 (ix x3)))))]) (st' := []) (s' := s) rfl ?_
        exact wpc_lle (ls := [some (.ref 0), none, some (.int (x2 ||| (gI s 5 (ix ((gI s 10 (ix (gI s 13 (ix x3)))) - (16 : Int32)))))), some (.int x3), none]) ⟨rfl, rfl, rfl, trivial⟩ h699
    · have h693 := h689.2 hc691
      refine wpc_sl (n := 1) (c' := 14) (pc' := 85) (ls' := [some (.ref 0), none, some (.int x2), some (.int x3), none]) (st' := [.int x2]) (s' := s) rfl ?_
      exact wpc_ret rfl rfl (fun q => absurd q (by decide)) rfl ⟨x2, rfl, h693⟩
  · have h690 := h.2 hc688
    refine wpc_sl (n := 1) (c' := 14) (pc' := 85) (ls' := [some (.ref 0), none, some (.int x2), some (.int x3), none]) (st' := [.int x2]) (s' := s) rfl ?_
    exact wpc_ret rfl rfl (fun q => absurd q (by decide)) rfl ⟨x2, rfl, h690⟩
theorem c30_78 (x2 : Int32) (x3 : Int32) (s : St) (Q : Int32 → St → Prop) (h : wpcI PP 30 cm30 14 18 [some (.ref 0), none, some (.int x2), some (.int (x3 + (1 : Int32))), none] [] s Q) : wpcI PP 30 cm30 14 78 [some (.ref 0), none, some (.int x2), some (.int x3), none] [] s Q := by
  refine wpc_sl (n := 2) (c' := 14) (pc' := 18) (ls' := [some (.ref 0), none, some (.int x2), some (.int (x3 + (1 : Int32))), none]) (st' := []) (s' := s) rfl ?_
  exact h
theorem c31_in (a1 : Int32) (s : St) (Q : St → Prop) (h : calI PP 30 14 [.ref 0, .int a1] s (fun v662 s661 => wpcV PP 31 cm31 14 8 [some (.ref 0), some (.int a1), some (.int v662), some (.int (0 : Int32)), none] [] s661 Q)) : calV PP 31 14 [.ref 0, .int a1] s Q := by
  refine cal_of (me := cm31) (ls := [some (.ref 0), some (.int a1), none, none, none]) rfl (Nat.le_of_ble_eq_true rfl) rfl ?_
  refine wpc_sl (n := 2) (c' := 14) (pc' := 2) (ls' := [some (.ref 0), some (.int a1), none, none, none]) (st' := [.int a1, .ref 0]) (s' := s) rfl ?_
  refine wpc_callI (m' := 30) (me' := cm30) (as := [.int a1]) (r := []) rfl rfl rfl rfl rfl ⟨by decide, (by first | decide | exact Nat.le_of_ble_eq_true rfl), (by first | decide | exact Nat.le_of_ble_eq_true rfl), rfl⟩ (calI.mono h fun v662 s661 h663 => ?_)
  refine wpc_sl (n := 3) (c' := 14) (pc' := 8) (ls' := [some (.ref 0), some (.int a1), some (.int v662), some (.int (0 : Int32)), none]) (st' := []) (s' := s661) rfl ?_
  exact h663
theorem c31_8 (x1 : Int32) (x2 : Int32) (x3 : Int32) (s : St) (Q : St → Prop) (h : (((32 : Int32) < x3) → wpcV PP 31 cm31 14 59 [some (.ref 0), some (.int x1), none, none, none] [] s Q) ∧ (¬ ((32 : Int32) < x3) → calI PP 23 14 [.ref 0] s (fun v668 s667 => ((((x2 >>> (v668 &&& 31)) &&& (1 : Int32)) = (0 : Int32)) → calV PP 24 14 [.ref 0, .int (2 : Int32), .int (gI s667 0 23), .int v668] s667 (fun s673 => wpcV PP 31 cm31 14 8 [some (.ref 0), some (.int x1), some (.int x2), some (.int (x3 + (1 : Int32))), none] [] (sI s673 0 23 ((gI s673 0 23) + (1 : Int32))) Q)) ∧ (¬ (((x2 >>> (v668 &&& 31)) &&& (1 : Int32)) = (0 : Int32)) → wpcV PP 31 cm31 14 59 [some (.ref 0), some (.int x1), none, none, none] [] s667 Q)))) : wpcV PP 31 cm31 14 8 [some (.ref 0), some (.int x1), some (.int x2), some (.int x3), none] [] s Q := by
  refine wpc_sl (n := 2) (c' := 14) (pc' := 11) (ls' := [some (.ref 0), some (.int x1), some (.int x2), some (.int x3), none]) (st' := [.int (32 : Int32), .int x3]) (s' := s) rfl ?_
  refine wpc_icmp (a := 59) (b := 14) rfl (by decide) rfl rfl (wpc_br (p := (32 : Int32) < x3) ⟨fun hc664 => ?_, fun hc664 => ?_⟩)
  · have h665 := h.1 hc664
    exact wpc_lle (ls := [some (.ref 0), some (.int x1), none, none, none]) ⟨rfl, rfl, trivial⟩ h665
  · have h666 := h.2 hc664
    refine wpc_sl (n := 1) (c' := 14) (pc' := 15) (ls' := [some (.ref 0), some (.int x1), some (.int x2), some (.int x3), none]) (st' := [.ref 0]) (s' := s) rfl ?_
    refine wpc_callI (m' := 23) (me' := cm23) (as := []) (r := []) rfl rfl rfl rfl rfl ⟨by decide, (by first | decide | exact Nat.le_of_ble_eq_true rfl), (by first | decide | exact Nat.le_of_ble_eq_true rfl), rfl⟩ (calI.mono h666 fun v668 s667 h669 => ?_)
    refine wpc_sl (n := 6) (c' := 14) (pc' := 26) (ls' := [some (.ref 0), some (.int x1), some (.int x2), some (.int x3), some (.int v668)]) (st' := [.int ((x2 >>> (v668 &&& 31)) &&& (1 : Int32))]) (s' := s667) rfl ?_
    refine wpc_if (a := 32) (b := 29) rfl (by decide) rfl rfl (wpc_br (p := ((x2 >>> (v668 &&& 31)) &&& (1 : Int32)) = (0 : Int32)) ⟨fun hc670 => ?_, fun hc670 => ?_⟩)
    · have h671 := h669.1 hc670
      refine wpc_sl (n := 5) (c' := 14) (pc' := 40) (ls' := [some (.ref 0), some (.int x1), some (.int x2), some (.int x3), some (.int v668)]) (st' := [.int v668, .int (gI s667 0 23), .int (2 : Int32), .ref 0]) (s' := s667) rfl ?_
      refine wpc_callV (m' := 24) (me' := cm24) (as := [.int (2 : Int32), .int (gI s667 0 23), .int v668]) (r := []) rfl rfl rfl rfl rfl ⟨by decide, (by first | decide | exact Nat.le_of_ble_eq_true rfl), (by first | decide | exact Nat.le_of_ble_eq_true rfl), rfl⟩ (calV.mono h671 fun s673 h675 => ?_)
      refine wpc_sl (n := 8) (c' := 14) (pc' := 8) (ls' := [some (.ref 0), some (.int x1), some (.int x2), some (.int (x3 + (1 : Int32))), some (.int v668)]) (st' := []) (s' := (sI s673 0 23 ((gI s673 0 23) + (1 : Int32)))) rfl ?_
      exact wpc_lle (ls := [some (.ref 0), some (.int x1), some (.int x2), some (.int (x3 + (1 : Int32))), none]) ⟨rfl, rfl, rfl, rfl, trivial⟩ h675
    · have h672 := h669.2 hc670
      refine wpc_sl (n := 1) (c' := 14) (pc' := 59) (ls' := [some (.ref 0), some (.int x1), some (.int x2), some (.int x3), some (.int v668)]) (st' := []) (s' := s667) rfl ?_
      exact wpc_lle (ls := [some (.ref 0), some (.int x1), none, none, none]) ⟨rfl, rfl, trivial⟩ h672
theorem c31_59 (x1 : Int32) (s : St) (Q : St → Prop) (h : calI PP 23 14 [.ref 0] s (fun v677 s676 => inb 128 ((x1 * (16 : Int32)) + v677) ∧ (((gI s676 7 (ix ((x1 * (16 : Int32)) + v677))) < (0 : Int32)) → calV PP 24 14 [.ref 0, .int (3 : Int32), .int (gI s676 0 23), .int ((16 : Int32) + x1)] s676 (fun s683 => Q (sI s683 0 22 ((gI s683 0 22) - (1 : Int32))))) ∧ (¬ ((gI s676 7 (ix ((x1 * (16 : Int32)) + v677))) < (0 : Int32)) → Q s676))) : wpcV PP 31 cm31 14 59 [some (.ref 0), some (.int x1), none, none, none] [] s Q := by
  refine wpc_sl (n := 1) (c' := 14) (pc' := 60) (ls' := [some (.ref 0), some (.int x1), none, none, none]) (st' := [.ref 0]) (s' := s) rfl ?_
  refine wpc_callI (m' := 23) (me' := cm23) (as := []) (r := []) rfl rfl rfl rfl rfl ⟨by decide, (by first | decide | exact Nat.le_of_ble_eq_true rfl), (by first | decide | exact Nat.le_of_ble_eq_true rfl), rfl⟩ (calI.mono h fun v677 s676 h678 => ?_)
  refine wpc_sl (n := 8) (c' := 14) (pc' := 74) (ls' := [some (.ref 0), some (.int x1), none, some (.int v677), none]) (st' := [.int ((x1 * (16 : Int32)) + v677), .ref 7]) (s' := s676) rfl ?_
  refine wpc_ldaI (a := 6) (N := 128) (v := (gI s676 7 (ix ((x1 * (16 : Int32)) + v677)))) rfl rfl (by decide) h678.1 rfl ?_
  have h679 := h678.2
  refine wpc_if (a := 79) (b := 78) rfl (by decide) rfl rfl (wpc_br (p := (gI s676 7 (ix ((x1 * (16 : Int32)) + v677))) < (0 : Int32)) ⟨fun hc680 => ?_, fun hc680 => ?_⟩)
  · have h681 := h679.1 hc680
    refine wpc_sl (n := 7) (c' := 14) (pc' := 89) (ls' := [some (.ref 0), some (.int x1), none, some (.int v677), none]) (st' := [.int ((16 : Int32) + x1), .int (gI s676 0 23), .int (3 : Int32), .ref 0]) (s' := s676) rfl ?_
    refine wpc_callV (m' := 24) (me' := cm24) (as := [.int (3 : Int32), .int (gI s676 0 23), .int ((16 : Int32) + x1)]) (r := []) rfl rfl rfl rfl rfl ⟨by decide, (by first | decide | exact Nat.le_of_ble_eq_true rfl), (by first | decide | exact Nat.le_of_ble_eq_true rfl), rfl⟩ (calV.mono h681 fun s683 h685 => ?_)
    refine wpc_sl (n := 6) (c' := 14) (pc' := 102) (ls' := [some (.ref 0), some (.int x1), none, some (.int v677), none]) (st' := []) (s' := (sI s683 0 22 ((gI s683 0 22) - (1 : Int32)))) rfl ?_
    exact wpc_ret rfl rfl (fun q => absurd q (by decide)) rfl ⟨rfl, h685⟩
  · have h682 := h679.2 hc680
    exact wpc_ret rfl rfl (fun q => absurd q (by decide)) rfl ⟨rfl, h682⟩
theorem c29_in (a1 : Int32) (s : St) (Q : St → Prop) (h : (((gI s 0 22) < (0 : Int32)) → Q s) ∧ (¬ ((gI s 0 22) < (0 : Int32)) → (((gI s 0 22) < (256 : Int32)) → inb 256 (gI s 0 22) ∧ Q (sI (sI s 13 (ix (gI s 0 22)) a1) 0 22 ((gI s 0 22) + (1 : Int32)))) ∧ (¬ ((gI s 0 22) < (256 : Int32)) → Q s))) : calV PP 29 14 [.ref 0, .int a1] s Q := by
  refine cal_of (me := cm29) (ls := [some (.ref 0), some (.int a1)]) rfl (Nat.le_of_ble_eq_true rfl) rfl ?_
  refine wpc_sl (n := 2) (c' := 14) (pc' := 4) (ls' := [some (.ref 0), some (.int a1)]) (st' := [.int (gI s 0 22)]) (s' := s) rfl ?_
  refine wpc_if (a := 37) (b := 7) rfl (by decide) rfl rfl (wpc_br (p := (gI s 0 22) < (0 : Int32)) ⟨fun hc718 => ?_, fun hc718 => ?_⟩)
  · have h719 := h.1 hc718
    exact wpc_ret rfl rfl (fun q => absurd q (by decide)) rfl ⟨rfl, h719⟩
  · have h720 := h.2 hc718
    refine wpc_sl (n := 3) (c' := 14) (pc' := 14) (ls' := [some (.ref 0), some (.int a1)]) (st' := [.int (256 : Int32), .int (gI s 0 22)]) (s' := s) rfl ?_
    refine wpc_icmp (a := 37) (b := 17) rfl (by decide) rfl rfl (wpc_br (p := (gI s 0 22) < (256 : Int32)) ⟨fun hc721 => ?_, fun hc721 => ?_⟩)
    · have h722 := h720.1 hc721
      refine wpc_sl (n := 5) (c' := 14) (pc' := 26) (ls' := [some (.ref 0), some (.int a1)]) (st' := [.int a1, .int (gI s 0 22), .ref 13]) (s' := s) rfl ?_
      refine wpc_staI (a := 12) (N := 256) (s' := (sI s 13 (ix (gI s 0 22)) a1)) rfl rfl (by decide) h722.1 rfl ?_
      have h724 := h722.2
      refine wpc_sl (n := 6) (c' := 14) (pc' := 37) (ls' := [some (.ref 0), some (.int a1)]) (st' := []) (s' := (sI (sI s 13 (ix (gI s 0 22)) a1) 0 22 ((gI s 0 22) + (1 : Int32)))) rfl ?_
      exact wpc_ret rfl rfl (fun q => absurd q (by decide)) rfl ⟨rfl, h724⟩
    · have h723 := h720.2 hc721
      exact wpc_ret rfl rfl (fun q => absurd q (by decide)) rfl ⟨rfl, h723⟩
theorem c28_in (a1 : Int32) (a2 : Int32) (s : St) (Q : Int32 → St → Prop) (h : inb 16 a2 ∧ (((256 : Int32) < ((gI s 0 19) + (gI s 2 (ix a2)))) → Q (0 : Int32) s) ∧ (¬ ((256 : Int32) < ((gI s 0 19) + (gI s 2 (ix a2)))) → inb 256 a1 ∧ wpcI PP 28 cm28 14 47 [some (.ref 0), some (.int a1), some (.int a2), some (.int (gI s 2 (ix a2))), some (.int (gI s 0 19)), some (.int (0 : Int32)), none] [] (sI (sI s 12 (ix a1) a2) 0 22 ((gI s 0 22) - (1 : Int32))) Q)) : calI PP 28 14 [.ref 0, .int a1, .int a2] s Q := by
  refine cal_of (me := cm28) (ls := [some (.ref 0), some (.int a1), some (.int a2), none, none, none, none]) rfl (Nat.le_of_ble_eq_true rfl) rfl ?_
  refine wpc_sl (n := 3) (c' := 14) (pc' := 5) (ls' := [some (.ref 0), some (.int a1), some (.int a2), none, none, none, none]) (st' := [.int a2, .ref 2]) (s' := s) rfl ?_
  refine wpc_ldaI (a := 1) (N := 16) (v := (gI s 2 (ix a2))) rfl rfl (by decide) h.1 rfl ?_
  have h700 := h.2
  refine wpc_sl (n := 6) (c' := 14) (pc' := 16) (ls' := [some (.ref 0), some (.int a1), some (.int a2), some (.int (gI s 2 (ix a2))), none, none, none]) (st' := [.int (256 : Int32), .int ((gI s 0 19) + (gI s 2 (ix a2)))]) (s' := s) rfl ?_
  refine wpc_icmp (a := 21) (b := 19) rfl (by decide) rfl rfl (wpc_br (p := (256 : Int32) < ((gI s 0 19) + (gI s 2 (ix a2)))) ⟨fun hc701 => ?_, fun hc701 => ?_⟩)
  · have h702 := h700.1 hc701
    refine wpc_sl (n := 1) (c' := 14) (pc' := 20) (ls' := [some (.ref 0), some (.int a1), some (.int a2), some (.int (gI s 2 (ix a2))), none, none, none]) (st' := [.int (0 : Int32)]) (s' := s) rfl ?_
    exact wpc_ret rfl rfl (fun q => absurd q (by decide)) rfl ⟨(0 : Int32), rfl, h702⟩
  · have h703 := h700.2 hc701
    refine wpc_sl (n := 4) (c' := 14) (pc' := 27) (ls' := [some (.ref 0), some (.int a1), some (.int a2), some (.int (gI s 2 (ix a2))), none, none, none]) (st' := [.int a2, .int a1, .ref 12]) (s' := s) rfl ?_
    refine wpc_staI (a := 11) (N := 256) (s' := (sI s 12 (ix a1) a2)) rfl rfl (by decide) h703.1 rfl ?_
    have h704 := h703.2
    refine wpc_sl (n := 11) (c' := 14) (pc' := 47) (ls' := [some (.ref 0), some (.int a1), some (.int a2), some (.int (gI s 2 (ix a2))), some (.int (gI s 0 19)), some (.int (0 : Int32)), none]) (st' := []) (s' := (sI (sI s 12 (ix a1) a2) 0 22 ((gI s 0 22) - (1 : Int32)))) rfl ?_
    exact h704
theorem c28_47 (x1 : Int32) (x2 : Int32) (x3 : Int32) (x4 : Int32) (x5 : Int32) (s : St) (Q : Int32 → St → Prop) (h : ((x5 < x3) → inb 96 ((x2 * (6 : Int32)) + x5) ∧ inb 256 (x4 + x5) ∧ inb 256 (x4 + x5) ∧ inb 256 (x4 + x5) ∧ wpcI PP 28 cm28 14 47 [some (.ref 0), some (.int x1), some (.int x2), some (.int x3), some (.int x4), some (.int (x5 + (1 : Int32))), none] [] (sI (sI (sI s 10 (ix (x4 + x5)) (gI s 3 (ix ((x2 * (6 : Int32)) + x5)))) 11 (ix (x4 + x5)) x1) 12 (ix (x4 + x5)) (-1 : Int32)) Q) ∧ (¬ (x5 < x3) → wpcI PP 28 cm28 14 114 [some (.ref 0), none, none, none, some (.int x4), some (.int (x3 - (1 : Int32))), none] [] (sI s 0 19 (x4 + x3)) Q)) : wpcI PP 28 cm28 14 47 [some (.ref 0), some (.int x1), some (.int x2), some (.int x3), some (.int x4), some (.int x5), none] [] s Q := by
  refine wpc_sl (n := 2) (c' := 14) (pc' := 50) (ls' := [some (.ref 0), some (.int x1), some (.int x2), some (.int x3), some (.int x4), some (.int x5), none]) (st' := [.int x3, .int x5]) (s' := s) rfl ?_
  refine wpc_icmp (a := 101) (b := 53) rfl (by decide) rfl rfl (wpc_br (p := x5 < x3) ⟨fun hc705 => ?_, fun hc705 => ?_⟩)
  · have h706 := h.1 hc705
    refine wpc_sl (n := 14) (c' := 14) (pc' := 77) (ls' := [some (.ref 0), some (.int x1), some (.int x2), some (.int x3), some (.int x4), some (.int x5), some (.int (x4 + x5))]) (st' := [.int ((x2 * (6 : Int32)) + x5), .ref 3, .int (x4 + x5), .ref 10]) (s' := s) rfl ?_
    refine wpc_ldaI (a := 2) (N := 96) (v := (gI s 3 (ix ((x2 * (6 : Int32)) + x5)))) rfl rfl (by decide) h706.1 rfl ?_
    have h708 := h706.2
    refine wpc_staI (a := 9) (N := 256) (s' := (sI s 10 (ix (x4 + x5)) (gI s 3 (ix ((x2 * (6 : Int32)) + x5))))) rfl rfl (by decide) h708.1 rfl ?_
    have h709 := h708.2
    refine wpc_sl (n := 4) (c' := 14) (pc' := 86) (ls' := [some (.ref 0), some (.int x1), some (.int x2), some (.int x3), some (.int x4), some (.int x5), some (.int (x4 + x5))]) (st' := [.int x1, .int (x4 + x5), .ref 11]) (s' := (sI s 10 (ix (x4 + x5)) (gI s 3 (ix ((x2 * (6 : Int32)) + x5))))) rfl ?_
    refine wpc_staI (a := 10) (N := 256) (s' := (sI (sI s 10 (ix (x4 + x5)) (gI s 3 (ix ((x2 * (6 : Int32)) + x5)))) 11 (ix (x4 + x5)) x1)) rfl rfl (by decide) h709.1 rfl ?_
    have h710 := h709.2
    refine wpc_sl (n := 4) (c' := 14) (pc' := 94) (ls' := [some (.ref 0), some (.int x1), some (.int x2), some (.int x3), some (.int x4), some (.int x5), some (.int (x4 + x5))]) (st' := [.int (-1 : Int32), .int (x4 + x5), .ref 12]) (s' := (sI (sI s 10 (ix (x4 + x5)) (gI s 3 (ix ((x2 * (6 : Int32)) + x5)))) 11 (ix (x4 + x5)) x1)) rfl ?_
    refine wpc_staI (a := 11) (N := 256) (s' := (sI (sI (sI s 10 (ix (x4 + x5)) (gI s 3 (ix ((x2 * (6 : Int32)) + x5)))) 11 (ix (x4 + x5)) x1) 12 (ix (x4 + x5)) (-1 : Int32))) rfl rfl (by decide) h710.1 rfl ?_
    have h711 := h710.2
    refine wpc_sl (n := 2) (c' := 14) (pc' := 47) (ls' := [some (.ref 0), some (.int x1), some (.int x2), some (.int x3), some (.int x4), some (.int (x5 + (1 : Int32))), some (.int (x4 + x5))]) (st' := []) (s' := (sI (sI (sI s 10 (ix (x4 + x5)) (gI s 3 (ix ((x2 * (6 : Int32)) + x5)))) 11 (ix (x4 + x5)) x1) 12 (ix (x4 + x5)) (-1 : Int32))) rfl ?_
    exact wpc_lle (ls := [some (.ref 0), some (.int x1), some (.int x2), some (.int x3), some (.int x4), some (.int (x5 + (1 : Int32))), none]) ⟨rfl, rfl, rfl, rfl, rfl, rfl, trivial⟩ h711
  · have h707 := h.2 hc705
    refine wpc_sl (n := 9) (c' := 14) (pc' := 114) (ls' := [some (.ref 0), some (.int x1), some (.int x2), some (.int x3), some (.int x4), some (.int (x3 - (1 : Int32))), none]) (st' := []) (s' := (sI s 0 19 (x4 + x3))) rfl ?_
    exact wpc_lle (ls := [some (.ref 0), none, none, none, some (.int x4), some (.int (x3 - (1 : Int32))), none]) ⟨rfl, rfl, rfl, trivial⟩ h707
theorem c28_114 (x4 : Int32) (x5 : Int32) (s : St) (Q : Int32 → St → Prop) (h : ((x5 < (0 : Int32)) → Q (1 : Int32) s) ∧ (¬ (x5 < (0 : Int32)) → calV PP 29 14 [.ref 0, .int (x4 + x5)] s (fun s715 => wpcI PP 28 cm28 14 114 [some (.ref 0), none, none, none, some (.int x4), some (.int (x5 + (-1 : Int32))), none] [] s715 Q))) : wpcI PP 28 cm28 14 114 [some (.ref 0), none, none, none, some (.int x4), some (.int x5), none] [] s Q := by
  refine wpc_sl (n := 1) (c' := 14) (pc' := 116) (ls' := [some (.ref 0), none, none, none, some (.int x4), some (.int x5), none]) (st' := [.int x5]) (s' := s) rfl ?_
  refine wpc_if (a := 134) (b := 119) rfl (by decide) rfl rfl (wpc_br (p := x5 < (0 : Int32)) ⟨fun hc712 => ?_, fun hc712 => ?_⟩)
  · have h713 := h.1 hc712
    refine wpc_sl (n := 1) (c' := 14) (pc' := 135) (ls' := [some (.ref 0), none, none, none, some (.int x4), some (.int x5), none]) (st' := [.int (1 : Int32)]) (s' := s) rfl ?_
    exact wpc_ret rfl rfl (fun q => absurd q (by decide)) rfl ⟨(1 : Int32), rfl, h713⟩
  · have h714 := h.2 hc712
    refine wpc_sl (n := 4) (c' := 14) (pc' := 125) (ls' := [some (.ref 0), none, none, none, some (.int x4), some (.int x5), none]) (st' := [.int (x4 + x5), .ref 0]) (s' := s) rfl ?_
    refine wpc_callV (m' := 29) (me' := cm29) (as := [.int (x4 + x5)]) (r := []) rfl rfl rfl rfl rfl ⟨by decide, (by first | decide | exact Nat.le_of_ble_eq_true rfl), (by first | decide | exact Nat.le_of_ble_eq_true rfl), rfl⟩ (calV.mono h714 fun s715 h717 => ?_)
    refine wpc_sl (n := 2) (c' := 14) (pc' := 114) (ls' := [some (.ref 0), none, none, none, some (.int x4), some (.int (x5 + (-1 : Int32))), none]) (st' := []) (s' := s715) rfl ?_
    exact h717
theorem c27_in (a1 : Int32) (a2 : Int32) (s : St) (Q : Int32 → St → Prop) (h : calI PP 23 14 [.ref 0] s (fun v649 s648 => inb 128 ((a2 * (16 : Int32)) + v649) ∧ (((gI s648 7 (ix ((a2 * (16 : Int32)) + v649))) < (0 : Int32)) → calV PP 31 14 [.ref 0, .int a2] s648 (fun s655 => Q (1 : Int32) s655)) ∧ (¬ ((gI s648 7 (ix ((a2 * (16 : Int32)) + v649))) < (0 : Int32)) → calI PP 28 14 [.ref 0, .int a1, .int (gI s648 7 (ix ((a2 * (16 : Int32)) + v649)))] s648 (fun v659 s658 => Q (v659 &&& 1) s658)))) : calI PP 27 14 [.ref 0, .int a1, .int a2] s Q := by
  refine cal_of (me := cm27) (ls := [some (.ref 0), some (.int a1), some (.int a2), none, none]) rfl (Nat.le_of_ble_eq_true rfl) rfl ?_
  refine wpc_sl (n := 1) (c' := 14) (pc' := 1) (ls' := [some (.ref 0), some (.int a1), some (.int a2), none, none]) (st' := [.ref 0]) (s' := s) rfl ?_
  refine wpc_callI (m' := 23) (me' := cm23) (as := []) (r := []) rfl rfl rfl rfl rfl ⟨by decide, (by first | decide | exact Nat.le_of_ble_eq_true rfl), (by first | decide | exact Nat.le_of_ble_eq_true rfl), rfl⟩ (calI.mono h fun v649 s648 h650 => ?_)
  refine wpc_sl (n := 8) (c' := 14) (pc' := 15) (ls' := [some (.ref 0), some (.int a1), some (.int a2), some (.int v649), none]) (st' := [.int ((a2 * (16 : Int32)) + v649), .ref 7]) (s' := s648) rfl ?_
  refine wpc_ldaI (a := 6) (N := 128) (v := (gI s648 7 (ix ((a2 * (16 : Int32)) + v649)))) rfl rfl (by decide) h650.1 rfl ?_
  have h651 := h650.2
  refine wpc_sl (n := 2) (c' := 14) (pc' := 20) (ls' := [some (.ref 0), some (.int a1), some (.int a2), some (.int v649), some (.int (gI s648 7 (ix ((a2 * (16 : Int32)) + v649))))]) (st' := [.int (gI s648 7 (ix ((a2 * (16 : Int32)) + v649)))]) (s' := s648) rfl ?_
  refine wpc_if (a := 31) (b := 23) rfl (by decide) rfl rfl (wpc_br (p := (gI s648 7 (ix ((a2 * (16 : Int32)) + v649))) < (0 : Int32)) ⟨fun hc652 => ?_, fun hc652 => ?_⟩)
  · have h653 := h651.1 hc652
    refine wpc_sl (n := 2) (c' := 14) (pc' := 33) (ls' := [some (.ref 0), some (.int a1), some (.int a2), some (.int v649), some (.int (gI s648 7 (ix ((a2 * (16 : Int32)) + v649))))]) (st' := [.int a2, .ref 0]) (s' := s648) rfl ?_
    refine wpc_callV (m' := 31) (me' := cm31) (as := [.int a2]) (r := []) rfl rfl rfl rfl rfl ⟨by decide, (by first | decide | exact Nat.le_of_ble_eq_true rfl), (by first | decide | exact Nat.le_of_ble_eq_true rfl), rfl⟩ (calV.mono h653 fun s655 h657 => ?_)
    refine wpc_sl (n := 1) (c' := 14) (pc' := 37) (ls' := [some (.ref 0), some (.int a1), some (.int a2), some (.int v649), some (.int (gI s648 7 (ix ((a2 * (16 : Int32)) + v649))))]) (st' := [.int (1 : Int32)]) (s' := s655) rfl ?_
    exact wpc_ret rfl rfl (fun q => absurd q (by decide)) rfl ⟨(1 : Int32), rfl, h657⟩
  · have h654 := h651.2 hc652
    refine wpc_sl (n := 3) (c' := 14) (pc' := 27) (ls' := [some (.ref 0), some (.int a1), some (.int a2), some (.int v649), some (.int (gI s648 7 (ix ((a2 * (16 : Int32)) + v649))))]) (st' := [.int (gI s648 7 (ix ((a2 * (16 : Int32)) + v649))), .int a1, .ref 0]) (s' := s648) rfl ?_
    refine wpc_callI (m' := 28) (me' := cm28) (as := [.int a1, .int (gI s648 7 (ix ((a2 * (16 : Int32)) + v649)))]) (r := []) rfl rfl rfl rfl rfl ⟨by decide, (by first | decide | exact Nat.le_of_ble_eq_true rfl), (by first | decide | exact Nat.le_of_ble_eq_true rfl), rfl⟩ (calI.mono h654 fun v659 s658 h660 => ?_)
    exact wpc_ret rfl rfl (fun q => absurd q (by decide)) rfl ⟨(v659 &&& 1), rfl, h660⟩
theorem c25_in  (s : St) (Q : St → Prop) (h : wpcV PP 25 cm25 14 2 [some (.ref 0), some (.int (0 : Int32))] [] s Q) : calV PP 25 14 [.ref 0] s Q := by
  refine cal_of (me := cm25) (ls := [some (.ref 0), none]) rfl (Nat.le_of_ble_eq_true rfl) rfl ?_
  refine wpc_sl (n := 2) (c' := 14) (pc' := 2) (ls' := [some (.ref 0), some (.int (0 : Int32))]) (st' := []) (s' := s) rfl ?_
  exact h
theorem c25_2 (x1 : Int32) (s : St) (Q : St → Prop) (h : ((x1 < (32 : Int32)) → (((gI s 0 23) < (gI s 0 18)) → inb 32 (gI s 0 23) ∧ calV PP 24 14 [.ref 0, .int (2 : Int32), .int (gI s 0 23), .int (gI s 9 (ix (gI s 0 23)))] s (fun s732 => wpcV PP 25 cm25 14 2 [some (.ref 0), some (.int (x1 + (1 : Int32)))] [] (sI s732 0 23 ((gI s732 0 23) + (1 : Int32))) Q)) ∧ (¬ ((gI s 0 23) < (gI s 0 18)) → Q s)) ∧ (¬ (x1 < (32 : Int32)) → Q s)) : wpcV PP 25 cm25 14 2 [some (.ref 0), some (.int x1)] [] s Q := by
  refine wpc_sl (n := 2) (c' := 14) (pc' := 5) (ls' := [some (.ref 0), some (.int x1)]) (st' := [.int (32 : Int32), .int x1]) (s' := s) rfl ?_
  refine wpc_icmp (a := 53) (b := 8) rfl (by decide) rfl rfl (wpc_br (p := x1 < (32 : Int32)) ⟨fun hc725 => ?_, fun hc725 => ?_⟩)
  · have h726 := h.1 hc725
    refine wpc_sl (n := 4) (c' := 14) (pc' := 16) (ls' := [some (.ref 0), some (.int x1)]) (st' := [.int (gI s 0 18), .int (gI s 0 23)]) (s' := s) rfl ?_
    refine wpc_icmp (a := 53) (b := 19) rfl (by decide) rfl rfl (wpc_br (p := (gI s 0 23) < (gI s 0 18)) ⟨fun hc728 => ?_, fun hc728 => ?_⟩)
    · have h729 := h726.1 hc728
      refine wpc_sl (n := 8) (c' := 14) (pc' := 33) (ls' := [some (.ref 0), some (.int x1)]) (st' := [.int (gI s 0 23), .ref 9, .int (gI s 0 23), .int (2 : Int32), .ref 0]) (s' := s) rfl ?_
      refine wpc_ldaI (a := 8) (N := 32) (v := (gI s 9 (ix (gI s 0 23)))) rfl rfl (by decide) h729.1 rfl ?_
      have h731 := h729.2
      refine wpc_callV (m' := 24) (me' := cm24) (as := [.int (2 : Int32), .int (gI s 0 23), .int (gI s 9 (ix (gI s 0 23)))]) (r := []) rfl rfl rfl rfl rfl ⟨by decide, (by first | decide | exact Nat.le_of_ble_eq_true rfl), (by first | decide | exact Nat.le_of_ble_eq_true rfl), rfl⟩ (calV.mono h731 fun s732 h734 => ?_)
      refine wpc_sl (n := 8) (c' := 14) (pc' := 2) (ls' := [some (.ref 0), some (.int (x1 + (1 : Int32)))]) (st' := []) (s' := (sI s732 0 23 ((gI s732 0 23) + (1 : Int32)))) rfl ?_
      exact h734
    · have h730 := h726.2 hc728
      exact wpc_ret rfl rfl (fun q => absurd q (by decide)) rfl ⟨rfl, h730⟩
  · have h727 := h.2 hc725
    exact wpc_ret rfl rfl (fun q => absurd q (by decide)) rfl ⟨rfl, h727⟩
theorem c22_in  (s : St) (Q : Int32 → St → Prop) (h : (((gI s 0 24) = (0 : Int32)) → Q (-1 : Int32) s) ∧ (¬ ((gI s 0 24) = (0 : Int32)) → (((gI s 0 25) = (0 : Int32)) → inb 256 (0 : Int32) ∧ inb 256 (0 : Int32) ∧ inb 256 (0 : Int32) ∧ inb 256 (0 : Int32) ∧ wpcI PP 22 cm22 14 67 [some (.ref 0), some (.int (0 : Int32)), none, none] [] (sI (sI (sI (sI (sI (sI (sI (sI s 0 25 (1 : Int32)) 0 19 (1 : Int32)) 10 (ix (0 : Int32)) (16 : Int32)) 11 (ix (0 : Int32)) (-1 : Int32)) 12 (ix (0 : Int32)) (-1 : Int32)) 13 (ix (0 : Int32)) (0 : Int32)) 0 22 (1 : Int32)) 0 23 (0 : Int32)) Q) ∧ (¬ ((gI s 0 25) = (0 : Int32)) → Q (-1 : Int32) s))) : calI PP 22 14 [.ref 0] s Q := by
  refine cal_of (me := cm22) (ls := [some (.ref 0), none, none, none]) rfl (Nat.le_of_ble_eq_true rfl) rfl ?_
  refine wpc_sl (n := 2) (c' := 14) (pc' := 4) (ls' := [some (.ref 0), none, none, none]) (st' := [.int (gI s 0 24)]) (s' := s) rfl ?_
  refine wpc_if (a := 14) (b := 7) rfl (by decide) rfl rfl (wpc_br (p := (gI s 0 24) = (0 : Int32)) ⟨fun hc585 => ?_, fun hc585 => ?_⟩)
  · have h586 := h.1 hc585
    refine wpc_sl (n := 1) (c' := 14) (pc' := 15) (ls' := [some (.ref 0), none, none, none]) (st' := [.int (-1 : Int32)]) (s' := s) rfl ?_
    exact wpc_ret rfl rfl (fun q => absurd q (by decide)) rfl ⟨(-1 : Int32), rfl, h586⟩
  · have h587 := h.2 hc585
    refine wpc_sl (n := 2) (c' := 14) (pc' := 11) (ls' := [some (.ref 0), none, none, none]) (st' := [.int (gI s 0 25)]) (s' := s) rfl ?_
    refine wpc_if (a := 16) (b := 14) rfl (by decide) rfl rfl (wpc_br (p := (gI s 0 25) = (0 : Int32)) ⟨fun hc588 => ?_, fun hc588 => ?_⟩)
    · have h589 := h587.1 hc588
      refine wpc_sl (n := 10) (c' := 14) (pc' := 33) (ls' := [some (.ref 0), none, none, none]) (st' := [.int (16 : Int32), .int (0 : Int32), .ref 10]) (s' := (sI (sI s 0 25 (1 : Int32)) 0 19 (1 : Int32))) rfl ?_
      refine wpc_staI (a := 9) (N := 256) (s' := (sI (sI (sI s 0 25 (1 : Int32)) 0 19 (1 : Int32)) 10 (ix (0 : Int32)) (16 : Int32))) rfl rfl (by decide) h589.1 rfl ?_
      have h591 := h589.2
      refine wpc_sl (n := 4) (c' := 14) (pc' := 40) (ls' := [some (.ref 0), none, none, none]) (st' := [.int (-1 : Int32), .int (0 : Int32), .ref 11]) (s' := (sI (sI (sI s 0 25 (1 : Int32)) 0 19 (1 : Int32)) 10 (ix (0 : Int32)) (16 : Int32))) rfl ?_
      refine wpc_staI (a := 10) (N := 256) (s' := (sI (sI (sI (sI s 0 25 (1 : Int32)) 0 19 (1 : Int32)) 10 (ix (0 : Int32)) (16 : Int32)) 11 (ix (0 : Int32)) (-1 : Int32))) rfl rfl (by decide) h591.1 rfl ?_
      have h592 := h591.2
      refine wpc_sl (n := 4) (c' := 14) (pc' := 47) (ls' := [some (.ref 0), none, none, none]) (st' := [.int (-1 : Int32), .int (0 : Int32), .ref 12]) (s' := (sI (sI (sI (sI s 0 25 (1 : Int32)) 0 19 (1 : Int32)) 10 (ix (0 : Int32)) (16 : Int32)) 11 (ix (0 : Int32)) (-1 : Int32))) rfl ?_
      refine wpc_staI (a := 11) (N := 256) (s' := (sI (sI (sI (sI (sI s 0 25 (1 : Int32)) 0 19 (1 : Int32)) 10 (ix (0 : Int32)) (16 : Int32)) 11 (ix (0 : Int32)) (-1 : Int32)) 12 (ix (0 : Int32)) (-1 : Int32))) rfl rfl (by decide) h592.1 rfl ?_
      have h593 := h592.2
      refine wpc_sl (n := 4) (c' := 14) (pc' := 54) (ls' := [some (.ref 0), none, none, none]) (st' := [.int (0 : Int32), .int (0 : Int32), .ref 13]) (s' := (sI (sI (sI (sI (sI s 0 25 (1 : Int32)) 0 19 (1 : Int32)) 10 (ix (0 : Int32)) (16 : Int32)) 11 (ix (0 : Int32)) (-1 : Int32)) 12 (ix (0 : Int32)) (-1 : Int32))) rfl ?_
      refine wpc_staI (a := 12) (N := 256) (s' := (sI (sI (sI (sI (sI (sI s 0 25 (1 : Int32)) 0 19 (1 : Int32)) 10 (ix (0 : Int32)) (16 : Int32)) 11 (ix (0 : Int32)) (-1 : Int32)) 12 (ix (0 : Int32)) (-1 : Int32)) 13 (ix (0 : Int32)) (0 : Int32))) rfl rfl (by decide) h593.1 rfl ?_
      have h594 := h593.2
      refine wpc_sl (n := 8) (c' := 14) (pc' := 67) (ls' := [some (.ref 0), some (.int (0 : Int32)), none, none]) (st' := []) (s' := (sI (sI (sI (sI (sI (sI (sI (sI s 0 25 (1 : Int32)) 0 19 (1 : Int32)) 10 (ix (0 : Int32)) (16 : Int32)) 11 (ix (0 : Int32)) (-1 : Int32)) 12 (ix (0 : Int32)) (-1 : Int32)) 13 (ix (0 : Int32)) (0 : Int32)) 0 22 (1 : Int32)) 0 23 (0 : Int32))) rfl ?_
      exact h594
    · have h590 := h587.2 hc588
      refine wpc_sl (n := 1) (c' := 14) (pc' := 15) (ls' := [some (.ref 0), none, none, none]) (st' := [.int (-1 : Int32)]) (s' := s) rfl ?_
      exact wpc_ret rfl rfl (fun q => absurd q (by decide)) rfl ⟨(-1 : Int32), rfl, h590⟩
theorem c22_67 (x1 : Int32) (s : St) (Q : Int32 → St → Prop) (h : ((x1 < (2048 : Int32)) → (((0 : Int32) < (gI s 0 22)) → inb 256 ((gI s 0 22) - (1 : Int32)) ∧ inb 256 (gI s 13 (ix ((gI s 0 22) - (1 : Int32)))) ∧ (((gI s 10 (ix (gI s 13 (ix ((gI s 0 22) - (1 : Int32)))))) < (16 : Int32)) → calV PP 26 14 [.ref 0, .int (gI s 13 (ix ((gI s 0 22) - (1 : Int32)))), .int (gI s 10 (ix (gI s 13 (ix ((gI s 0 22) - (1 : Int32))))))] s (fun s606 => wpcI PP 22 cm22 14 136 [some (.ref 0), some (.int x1), none, none] [] s606 Q)) ∧ (¬ ((gI s 10 (ix (gI s 13 (ix ((gI s 0 22) - (1 : Int32)))))) < (16 : Int32)) → calI PP 27 14 [.ref 0, .int (gI s 13 (ix ((gI s 0 22) - (1 : Int32)))), .int ((gI s 10 (ix (gI s 13 (ix ((gI s 0 22) - (1 : Int32)))))) - (16 : Int32))] s (fun v610 s609 => ((v610 = (0 : Int32)) → Q (2 : Int32) s609) ∧ (¬ (v610 = (0 : Int32)) → wpcI PP 22 cm22 14 136 [some (.ref 0), some (.int x1), none, none] [] s609 Q)))) ∧ (¬ ((0 : Int32) < (gI s 0 22)) → calV PP 25 14 [.ref 0] s (fun s615 => wpcI PP 22 cm22 14 142 [some (.ref 0), none, none, none] [] s615 Q))) ∧ (¬ (x1 < (2048 : Int32)) → wpcI PP 22 cm22 14 142 [some (.ref 0), none, none, none] [] s Q)) : wpcI PP 22 cm22 14 67 [some (.ref 0), some (.int x1), none, none] [] s Q := by
  refine wpc_sl (n := 2) (c' := 14) (pc' := 71) (ls' := [some (.ref 0), some (.int x1), none, none]) (st' := [.int (2048 : Int32), .int x1]) (s' := s) rfl ?_
  refine wpc_icmp (a := 142) (b := 74) rfl (by decide) rfl rfl (wpc_br (p := x1 < (2048 : Int32)) ⟨fun hc595 => ?_, fun hc595 => ?_⟩)
  · have h596 := h.1 hc595
    refine wpc_sl (n := 2) (c' := 14) (pc' := 78) (ls' := [some (.ref 0), some (.int x1), none, none]) (st' := [.int (gI s 0 22)]) (s' := s) rfl ?_
    refine wpc_if (a := 88) (b := 81) rfl (by decide) rfl rfl (wpc_br (p := (0 : Int32) < (gI s 0 22)) ⟨fun hc598 => ?_, fun hc598 => ?_⟩)
    · have h599 := h596.1 hc598
      refine wpc_sl (n := 6) (c' := 14) (pc' := 98) (ls' := [some (.ref 0), some (.int x1), none, none]) (st' := [.int ((gI s 0 22) - (1 : Int32)), .ref 13]) (s' := s) rfl ?_
      refine wpc_ldaI (a := 12) (N := 256) (v := (gI s 13 (ix ((gI s 0 22) - (1 : Int32))))) rfl rfl (by decide) h599.1 rfl ?_
      have h601 := h599.2
      refine wpc_sl (n := 4) (c' := 14) (pc' := 105) (ls' := [some (.ref 0), some (.int x1), some (.int (gI s 13 (ix ((gI s 0 22) - (1 : Int32))))), none]) (st' := [.int (gI s 13 (ix ((gI s 0 22) - (1 : Int32)))), .ref 10]) (s' := s) rfl ?_
      refine wpc_ldaI (a := 9) (N := 256) (v := (gI s 10 (ix (gI s 13 (ix ((gI s 0 22) - (1 : Int32))))))) rfl rfl (by decide) h601.1 rfl ?_
      have h602 := h601.2
      refine wpc_sl (n := 3) (c' := 14) (pc' := 110) (ls' := [some (.ref 0), some (.int x1), some (.int (gI s 13 (ix ((gI s 0 22) - (1 : Int32))))), some (.int (gI s 10 (ix (gI s 13 (ix ((gI s 0 22) - (1 : Int32)))))))]) (st' := [.int (16 : Int32), .int (gI s 10 (ix (gI s 13 (ix ((gI s 0 22) - (1 : Int32))))))]) (s' := s) rfl ?_
      refine wpc_icmp (a := 122) (b := 113) rfl (by decide) rfl rfl (wpc_br (p := (gI s 10 (ix (gI s 13 (ix ((gI s 0 22) - (1 : Int32)))))) < (16 : Int32)) ⟨fun hc603 => ?_, fun hc603 => ?_⟩)
      · have h604 := h602.1 hc603
        refine wpc_sl (n := 3) (c' := 14) (pc' := 116) (ls' := [some (.ref 0), some (.int x1), some (.int (gI s 13 (ix ((gI s 0 22) - (1 : Int32))))), some (.int (gI s 10 (ix (gI s 13 (ix ((gI s 0 22) - (1 : Int32)))))))]) (st' := [.int (gI s 10 (ix (gI s 13 (ix ((gI s 0 22) - (1 : Int32)))))), .int (gI s 13 (ix ((gI s 0 22) - (1 : Int32)))), .ref 0]) (s' := s) rfl ?_
        refine wpc_callV (m' := 26) (me' := cm26) (as := [.int (gI s 13 (ix ((gI s 0 22) - (1 : Int32)))), .int (gI s 10 (ix (gI s 13 (ix ((gI s 0 22) - (1 : Int32))))))]) (r := []) rfl rfl rfl rfl rfl ⟨by decide, (by first | decide | exact Nat.le_of_ble_eq_true rfl), (by first | decide | exact Nat.le_of_ble_eq_true rfl), rfl⟩ (calV.mono h604 fun s606 h608 => ?_)
        refine wpc_sl (n := 1) (c' := 14) (pc' := 136) (ls' := [some (.ref 0), some (.int x1), some (.int (gI s 13 (ix ((gI s 0 22) - (1 : Int32))))), some (.int (gI s 10 (ix (gI s 13 (ix ((gI s 0 22) - (1 : Int32)))))))]) (st' := []) (s' := s606) rfl ?_
        exact wpc_lle (ls := [some (.ref 0), some (.int x1), none, none]) ⟨rfl, rfl, trivial⟩ h608
      · have h605 := h602.2 hc603
        refine wpc_sl (n := 5) (c' := 14) (pc' := 128) (ls' := [some (.ref 0), some (.int x1), some (.int (gI s 13 (ix ((gI s 0 22) - (1 : Int32))))), some (.int (gI s 10 (ix (gI s 13 (ix ((gI s 0 22) - (1 : Int32)))))))]) (st' := [.int ((gI s 10 (ix (gI s 13 (ix ((gI s 0 22) - (1 : Int32)))))) - (16 : Int32)), .int (gI s 13 (ix ((gI s 0 22) - (1 : Int32)))), .ref 0]) (s' := s) rfl ?_
        refine wpc_callI (m' := 27) (me' := cm27) (as := [.int (gI s 13 (ix ((gI s 0 22) - (1 : Int32)))), .int ((gI s 10 (ix (gI s 13 (ix ((gI s 0 22) - (1 : Int32)))))) - (16 : Int32))]) (r := []) rfl rfl rfl rfl rfl ⟨by decide, (by first | decide | exact Nat.le_of_ble_eq_true rfl), (by first | decide | exact Nat.le_of_ble_eq_true rfl), rfl⟩ (calI.mono h605 fun v610 s609 h611 => ?_)
        refine wpc_if (a := 136) (b := 134) rfl (by decide) rfl rfl (wpc_br (p := v610 = (0 : Int32)) ⟨fun hc612 => ?_, fun hc612 => ?_⟩)
        · have h613 := h611.1 hc612
          refine wpc_sl (n := 1) (c' := 14) (pc' := 135) (ls' := [some (.ref 0), some (.int x1), some (.int (gI s 13 (ix ((gI s 0 22) - (1 : Int32))))), some (.int (gI s 10 (ix (gI s 13 (ix ((gI s 0 22) - (1 : Int32)))))))]) (st' := [.int (2 : Int32)]) (s' := s609) rfl ?_
          exact wpc_ret rfl rfl (fun q => absurd q (by decide)) rfl ⟨(2 : Int32), rfl, h613⟩
        · have h614 := h611.2 hc612
          exact wpc_lle (ls := [some (.ref 0), some (.int x1), none, none]) ⟨rfl, rfl, trivial⟩ h614
    · have h600 := h596.2 hc598
      refine wpc_sl (n := 1) (c' := 14) (pc' := 82) (ls' := [some (.ref 0), some (.int x1), none, none]) (st' := [.ref 0]) (s' := s) rfl ?_
      refine wpc_callV (m' := 25) (me' := cm25) (as := []) (r := []) rfl rfl rfl rfl rfl ⟨by decide, (by first | decide | exact Nat.le_of_ble_eq_true rfl), (by first | decide | exact Nat.le_of_ble_eq_true rfl), rfl⟩ (calV.mono h600 fun s615 h617 => ?_)
      refine wpc_sl (n := 1) (c' := 14) (pc' := 142) (ls' := [some (.ref 0), some (.int x1), none, none]) (st' := []) (s' := s615) rfl ?_
      exact wpc_lle (ls := [some (.ref 0), none, none, none]) ⟨rfl, trivial⟩ h617
  · have h597 := h.2 hc595
    exact wpc_lle (ls := [some (.ref 0), none, none, none]) ⟨rfl, trivial⟩ h597
theorem c22_136 (x1 : Int32) (s : St) (Q : Int32 → St → Prop) (h : wpcI PP 22 cm22 14 67 [some (.ref 0), some (.int (x1 + (1 : Int32))), none, none] [] s Q) : wpcI PP 22 cm22 14 136 [some (.ref 0), some (.int x1), none, none] [] s Q := by
  refine wpc_sl (n := 2) (c' := 14) (pc' := 67) (ls' := [some (.ref 0), some (.int (x1 + (1 : Int32))), none, none]) (st' := []) (s' := s) rfl ?_
  exact h
theorem c22_142  (s : St) (Q : Int32 → St → Prop) (h : (((gI s 0 21) = (0 : Int32)) → Q (0 : Int32) s) ∧ (¬ ((gI s 0 21) = (0 : Int32)) → Q (1 : Int32) s)) : wpcI PP 22 cm22 14 142 [some (.ref 0), none, none, none] [] s Q := by
  refine wpc_sl (n := 2) (c' := 14) (pc' := 146) (ls' := [some (.ref 0), none, none, none]) (st' := [.int (gI s 0 21)]) (s' := s) rfl ?_
  refine wpc_if (a := 151) (b := 149) rfl (by decide) rfl rfl (wpc_br (p := (gI s 0 21) = (0 : Int32)) ⟨fun hc618 => ?_, fun hc618 => ?_⟩)
  · have h619 := h.1 hc618
    refine wpc_sl (n := 1) (c' := 14) (pc' := 150) (ls' := [some (.ref 0), none, none, none]) (st' := [.int (0 : Int32)]) (s' := s) rfl ?_
    exact wpc_ret rfl rfl (fun q => absurd q (by decide)) rfl ⟨(0 : Int32), rfl, h619⟩
  · have h620 := h.2 hc618
    refine wpc_sl (n := 1) (c' := 14) (pc' := 152) (ls' := [some (.ref 0), none, none, none]) (st' := [.int (1 : Int32)]) (s' := s) rfl ?_
    exact wpc_ret rfl rfl (fun q => absurd q (by decide)) rfl ⟨(1 : Int32), rfl, h620⟩
theorem c34_in  (s : St) (Q : Int32 → St → Prop) (h : Q (gI s 0 19) s) : calI PP 34 14 [.ref 0] s Q := by
  refine cal_of (me := cm34) (ls := [some (.ref 0)]) rfl (Nat.le_of_ble_eq_true rfl) rfl ?_
  refine wpc_sl (n := 2) (c' := 14) (pc' := 4) (ls' := [some (.ref 0)]) (st' := [.int (gI s 0 19)]) (s' := s) rfl ?_
  exact wpc_ret rfl rfl (fun q => absurd q (by decide)) rfl ⟨(gI s 0 19), rfl, h⟩
theorem c32_in  (s : St) (Q : Int32 → St → Prop) (h : Q (gI s 0 21) s) : calI PP 32 14 [.ref 0] s Q := by
  refine cal_of (me := cm32) (ls := [some (.ref 0)]) rfl (Nat.le_of_ble_eq_true rfl) rfl ?_
  refine wpc_sl (n := 2) (c' := 14) (pc' := 4) (ls' := [some (.ref 0)]) (st' := [.int (gI s 0 21)]) (s' := s) rfl ?_
  exact wpc_ret rfl rfl (fun q => absurd q (by decide)) rfl ⟨(gI s 0 21), rfl, h⟩
theorem c35_in (a1 : Int32) (s : St) (Q : Int32 → St → Prop) (h : ((a1 < (0 : Int32)) → Q (-1 : Int32) s) ∧ (¬ (a1 < (0 : Int32)) → ((a1 < (gI s 0 19)) → ((a1 < (256 : Int32)) → inb 256 a1 ∧ Q (gI s 10 (ix a1)) s) ∧ (¬ (a1 < (256 : Int32)) → Q (-1 : Int32) s)) ∧ (¬ (a1 < (gI s 0 19)) → Q (-1 : Int32) s))) : calI PP 35 14 [.ref 0, .int a1] s Q := by
  refine cal_of (me := cm35) (ls := [some (.ref 0), some (.int a1)]) rfl (Nat.le_of_ble_eq_true rfl) rfl ?_
  refine wpc_sl (n := 1) (c' := 14) (pc' := 1) (ls' := [some (.ref 0), some (.int a1)]) (st' := [.int a1]) (s' := s) rfl ?_
  refine wpc_if (a := 19) (b := 4) rfl (by decide) rfl rfl (wpc_br (p := a1 < (0 : Int32)) ⟨fun hc735 => ?_, fun hc735 => ?_⟩)
  · have h736 := h.1 hc735
    refine wpc_sl (n := 1) (c' := 14) (pc' := 20) (ls' := [some (.ref 0), some (.int a1)]) (st' := [.int (-1 : Int32)]) (s' := s) rfl ?_
    exact wpc_ret rfl rfl (fun q => absurd q (by decide)) rfl ⟨(-1 : Int32), rfl, h736⟩
  · have h737 := h.2 hc735
    refine wpc_sl (n := 3) (c' := 14) (pc' := 9) (ls' := [some (.ref 0), some (.int a1)]) (st' := [.int (gI s 0 19), .int a1]) (s' := s) rfl ?_
    refine wpc_icmp (a := 19) (b := 12) rfl (by decide) rfl rfl (wpc_br (p := a1 < (gI s 0 19)) ⟨fun hc738 => ?_, fun hc738 => ?_⟩)
    · have h739 := h737.1 hc738
      refine wpc_sl (n := 2) (c' := 14) (pc' := 16) (ls' := [some (.ref 0), some (.int a1)]) (st' := [.int (256 : Int32), .int a1]) (s' := s) rfl ?_
      refine wpc_icmp (a := 21) (b := 19) rfl (by decide) rfl rfl (wpc_br (p := a1 < (256 : Int32)) ⟨fun hc741 => ?_, fun hc741 => ?_⟩)
      · have h742 := h739.1 hc741
        refine wpc_sl (n := 3) (c' := 14) (pc' := 26) (ls' := [some (.ref 0), some (.int a1)]) (st' := [.int a1, .ref 10]) (s' := s) rfl ?_
        refine wpc_ldaI (a := 9) (N := 256) (v := (gI s 10 (ix a1))) rfl rfl (by decide) h742.1 rfl ?_
        have h744 := h742.2
        exact wpc_ret rfl rfl (fun q => absurd q (by decide)) rfl ⟨(gI s 10 (ix a1)), rfl, h744⟩
      · have h743 := h739.2 hc741
        refine wpc_sl (n := 1) (c' := 14) (pc' := 20) (ls' := [some (.ref 0), some (.int a1)]) (st' := [.int (-1 : Int32)]) (s' := s) rfl ?_
        exact wpc_ret rfl rfl (fun q => absurd q (by decide)) rfl ⟨(-1 : Int32), rfl, h743⟩
    · have h740 := h737.2 hc738
      refine wpc_sl (n := 1) (c' := 14) (pc' := 20) (ls' := [some (.ref 0), some (.int a1)]) (st' := [.int (-1 : Int32)]) (s' := s) rfl ?_
      exact wpc_ret rfl rfl (fun q => absurd q (by decide)) rfl ⟨(-1 : Int32), rfl, h740⟩
theorem c37_in (a1 : Int32) (s : St) (Q : Int32 → St → Prop) (h : ((a1 < (0 : Int32)) → Q (-2 : Int32) s) ∧ (¬ (a1 < (0 : Int32)) → ((a1 < (gI s 0 19)) → ((a1 < (256 : Int32)) → inb 256 a1 ∧ Q (gI s 12 (ix a1)) s) ∧ (¬ (a1 < (256 : Int32)) → Q (-2 : Int32) s)) ∧ (¬ (a1 < (gI s 0 19)) → Q (-2 : Int32) s))) : calI PP 37 14 [.ref 0, .int a1] s Q := by
  refine cal_of (me := cm37) (ls := [some (.ref 0), some (.int a1)]) rfl (Nat.le_of_ble_eq_true rfl) rfl ?_
  refine wpc_sl (n := 1) (c' := 14) (pc' := 1) (ls' := [some (.ref 0), some (.int a1)]) (st' := [.int a1]) (s' := s) rfl ?_
  refine wpc_if (a := 19) (b := 4) rfl (by decide) rfl rfl (wpc_br (p := a1 < (0 : Int32)) ⟨fun hc745 => ?_, fun hc745 => ?_⟩)
  · have h746 := h.1 hc745
    refine wpc_sl (n := 1) (c' := 14) (pc' := 21) (ls' := [some (.ref 0), some (.int a1)]) (st' := [.int (-2 : Int32)]) (s' := s) rfl ?_
    exact wpc_ret rfl rfl (fun q => absurd q (by decide)) rfl ⟨(-2 : Int32), rfl, h746⟩
  · have h747 := h.2 hc745
    refine wpc_sl (n := 3) (c' := 14) (pc' := 9) (ls' := [some (.ref 0), some (.int a1)]) (st' := [.int (gI s 0 19), .int a1]) (s' := s) rfl ?_
    refine wpc_icmp (a := 19) (b := 12) rfl (by decide) rfl rfl (wpc_br (p := a1 < (gI s 0 19)) ⟨fun hc748 => ?_, fun hc748 => ?_⟩)
    · have h749 := h747.1 hc748
      refine wpc_sl (n := 2) (c' := 14) (pc' := 16) (ls' := [some (.ref 0), some (.int a1)]) (st' := [.int (256 : Int32), .int a1]) (s' := s) rfl ?_
      refine wpc_icmp (a := 22) (b := 19) rfl (by decide) rfl rfl (wpc_br (p := a1 < (256 : Int32)) ⟨fun hc751 => ?_, fun hc751 => ?_⟩)
      · have h752 := h749.1 hc751
        refine wpc_sl (n := 3) (c' := 14) (pc' := 27) (ls' := [some (.ref 0), some (.int a1)]) (st' := [.int a1, .ref 12]) (s' := s) rfl ?_
        refine wpc_ldaI (a := 11) (N := 256) (v := (gI s 12 (ix a1))) rfl rfl (by decide) h752.1 rfl ?_
        have h754 := h752.2
        exact wpc_ret rfl rfl (fun q => absurd q (by decide)) rfl ⟨(gI s 12 (ix a1)), rfl, h754⟩
      · have h753 := h749.2 hc751
        refine wpc_sl (n := 1) (c' := 14) (pc' := 21) (ls' := [some (.ref 0), some (.int a1)]) (st' := [.int (-2 : Int32)]) (s' := s) rfl ?_
        exact wpc_ret rfl rfl (fun q => absurd q (by decide)) rfl ⟨(-2 : Int32), rfl, h753⟩
    · have h750 := h747.2 hc748
      refine wpc_sl (n := 1) (c' := 14) (pc' := 21) (ls' := [some (.ref 0), some (.int a1)]) (st' := [.int (-2 : Int32)]) (s' := s) rfl ?_
      exact wpc_ret rfl rfl (fun q => absurd q (by decide)) rfl ⟨(-2 : Int32), rfl, h750⟩
theorem c36_in (a1 : Int32) (s : St) (Q : Int32 → St → Prop) (h : ((a1 < (0 : Int32)) → Q (-2 : Int32) s) ∧ (¬ (a1 < (0 : Int32)) → ((a1 < (gI s 0 19)) → ((a1 < (256 : Int32)) → inb 256 a1 ∧ Q (gI s 11 (ix a1)) s) ∧ (¬ (a1 < (256 : Int32)) → Q (-2 : Int32) s)) ∧ (¬ (a1 < (gI s 0 19)) → Q (-2 : Int32) s))) : calI PP 36 14 [.ref 0, .int a1] s Q := by
  refine cal_of (me := cm36) (ls := [some (.ref 0), some (.int a1)]) rfl (Nat.le_of_ble_eq_true rfl) rfl ?_
  refine wpc_sl (n := 1) (c' := 14) (pc' := 1) (ls' := [some (.ref 0), some (.int a1)]) (st' := [.int a1]) (s' := s) rfl ?_
  refine wpc_if (a := 19) (b := 4) rfl (by decide) rfl rfl (wpc_br (p := a1 < (0 : Int32)) ⟨fun hc755 => ?_, fun hc755 => ?_⟩)
  · have h756 := h.1 hc755
    refine wpc_sl (n := 1) (c' := 14) (pc' := 21) (ls' := [some (.ref 0), some (.int a1)]) (st' := [.int (-2 : Int32)]) (s' := s) rfl ?_
    exact wpc_ret rfl rfl (fun q => absurd q (by decide)) rfl ⟨(-2 : Int32), rfl, h756⟩
  · have h757 := h.2 hc755
    refine wpc_sl (n := 3) (c' := 14) (pc' := 9) (ls' := [some (.ref 0), some (.int a1)]) (st' := [.int (gI s 0 19), .int a1]) (s' := s) rfl ?_
    refine wpc_icmp (a := 19) (b := 12) rfl (by decide) rfl rfl (wpc_br (p := a1 < (gI s 0 19)) ⟨fun hc758 => ?_, fun hc758 => ?_⟩)
    · have h759 := h757.1 hc758
      refine wpc_sl (n := 2) (c' := 14) (pc' := 16) (ls' := [some (.ref 0), some (.int a1)]) (st' := [.int (256 : Int32), .int a1]) (s' := s) rfl ?_
      refine wpc_icmp (a := 22) (b := 19) rfl (by decide) rfl rfl (wpc_br (p := a1 < (256 : Int32)) ⟨fun hc761 => ?_, fun hc761 => ?_⟩)
      · have h762 := h759.1 hc761
        refine wpc_sl (n := 3) (c' := 14) (pc' := 27) (ls' := [some (.ref 0), some (.int a1)]) (st' := [.int a1, .ref 11]) (s' := s) rfl ?_
        refine wpc_ldaI (a := 10) (N := 256) (v := (gI s 11 (ix a1))) rfl rfl (by decide) h762.1 rfl ?_
        have h764 := h762.2
        exact wpc_ret rfl rfl (fun q => absurd q (by decide)) rfl ⟨(gI s 11 (ix a1)), rfl, h764⟩
      · have h763 := h759.2 hc761
        refine wpc_sl (n := 1) (c' := 14) (pc' := 21) (ls' := [some (.ref 0), some (.int a1)]) (st' := [.int (-2 : Int32)]) (s' := s) rfl ?_
        exact wpc_ret rfl rfl (fun q => absurd q (by decide)) rfl ⟨(-2 : Int32), rfl, h763⟩
    · have h760 := h757.2 hc758
      refine wpc_sl (n := 1) (c' := 14) (pc' := 21) (ls' := [some (.ref 0), some (.int a1)]) (st' := [.int (-2 : Int32)]) (s' := s) rfl ?_
      exact wpc_ret rfl rfl (fun q => absurd q (by decide)) rfl ⟨(-2 : Int32), rfl, h760⟩
theorem c33_in (a1 : Int32) (s : St) (Q : Int32 → St → Prop) (h : ∀ m765, m765 = (if (64 : Int32) < (gI s 0 21) then (64 : Int32) else (gI s 0 21)) → (((a1 < (0 : Int32)) → Q (-1 : Int32) s) ∧ (¬ (a1 < (0 : Int32)) → ((a1 < m765) → inb 64 a1 ∧ Q (gI s 14 (ix a1)) s) ∧ (¬ (a1 < m765) → Q (-1 : Int32) s)))) : calI PP 33 14 [.ref 0, .int a1] s Q := by
  refine cal_of (me := cm33) (ls := [some (.ref 0), some (.int a1), none]) rfl (Nat.le_of_ble_eq_true rfl) rfl ?_
  refine wpc_sl (n := 5) (c' := 14) (pc' := 8) (ls' := [some (.ref 0), some (.int a1), some (.int (gI s 0 21))]) (st' := [.int (64 : Int32), .int (gI s 0 21)]) (s' := s) rfl ?_
  have hm766 : ∀ m765, m765 = (if (64 : Int32) < (gI s 0 21) then (64 : Int32) else (gI s 0 21)) → wpcI PP 33 cm33 14 14 [some (.ref 0), some (.int a1), some (.int m765)] [] s Q := by
    intro m765 em765
    have h767 := h m765 em765
    refine wpc_sl (n := 1) (c' := 14) (pc' := 15) (ls' := [some (.ref 0), some (.int a1), some (.int m765)]) (st' := [.int a1]) (s' := s) rfl ?_
    refine wpc_if (a := 23) (b := 18) rfl (by decide) rfl rfl (wpc_br (p := a1 < (0 : Int32)) ⟨fun hc768 => ?_, fun hc768 => ?_⟩)
    · have h769 := h767.1 hc768
      refine wpc_sl (n := 1) (c' := 14) (pc' := 24) (ls' := [some (.ref 0), some (.int a1), some (.int m765)]) (st' := [.int (-1 : Int32)]) (s' := s) rfl ?_
      exact wpc_ret rfl rfl (fun q => absurd q (by decide)) rfl ⟨(-1 : Int32), rfl, h769⟩
    · have h770 := h767.2 hc768
      refine wpc_sl (n := 2) (c' := 14) (pc' := 20) (ls' := [some (.ref 0), some (.int a1), some (.int m765)]) (st' := [.int m765, .int a1]) (s' := s) rfl ?_
      refine wpc_icmp (a := 25) (b := 23) rfl (by decide) rfl rfl (wpc_br (p := a1 < m765) ⟨fun hc771 => ?_, fun hc771 => ?_⟩)
      · have h772 := h770.1 hc771
        refine wpc_sl (n := 3) (c' := 14) (pc' := 30) (ls' := [some (.ref 0), some (.int a1), some (.int m765)]) (st' := [.int a1, .ref 14]) (s' := s) rfl ?_
        refine wpc_ldaI (a := 13) (N := 64) (v := (gI s 14 (ix a1))) rfl rfl (by decide) h772.1 rfl ?_
        have h774 := h772.2
        exact wpc_ret rfl rfl (fun q => absurd q (by decide)) rfl ⟨(gI s 14 (ix a1)), rfl, h774⟩
      · have h773 := h770.2 hc771
        refine wpc_sl (n := 1) (c' := 14) (pc' := 24) (ls' := [some (.ref 0), some (.int a1), some (.int m765)]) (st' := [.int (-1 : Int32)]) (s' := s) rfl ?_
        exact wpc_ret rfl rfl (fun q => absurd q (by decide)) rfl ⟨(-1 : Int32), rfl, h773⟩
  refine wpc_icmp (a := 14) (b := 11) rfl (by decide) rfl rfl (wpc_br (p := (64 : Int32) < (gI s 0 21)) ⟨fun hc775 => ?_, fun hc775 => ?_⟩)
  · refine wpc_sl (n := 2) (c' := 14) (pc' := 14) (ls' := [some (.ref 0), some (.int a1), some (.int (64 : Int32))]) (st' := []) (s' := s) rfl ?_
    first | exact hm766 _ (by simp only [if_pos hc775]) | exact wpc_lle (by repeat (first | exact trivial | refine ⟨rfl, ?_⟩)) (hm766 _ (by simp only [if_pos hc775]))
  · first | exact hm766 _ (by simp only [if_neg hc775]) | exact wpc_lle (by repeat (first | exact trivial | refine ⟨rfl, ?_⟩)) (hm766 _ (by simp only [if_neg hc775]))
theorem l0_in (N : Nat) (sg : Nat → Int32)   (Q : Int32 → Wd → Prop) (h : lalI PP QQ (some (N, sg)) 3 [.ref 0] W0p (fun v2 w1 => w1 = W0p ∧ (lalI PP QQ (some (N, sg)) 4 [.ref 0] W0p (fun v5 w4 => w4 = W0p ∧ (calV PP 0 0 [.ref 0, .int v2, .int v5] s0 (fun s7 => lalI PP QQ (some (N, sg)) 5 [.ref 0] (W1 s7) (fun v10 w9 => ∃ s12, w9 = W1 s12 ∧ (wplI PP QQ (some (N, sg)) 0 lm0 23 [some (.ref 0), some (.ref 1), some (.int v10), some (.int (0 : Int32)), none, none, none, none, none, none, none, none, none, none, none, none, none, none, none, none, none] [] (W1 s12) Q)))))))) : lalI PP QQ (some (N, sg)) 0 [.ref 0] W0 Q := by
  refine lal_of (me := lm0) (ls := [some (.ref 0), none, none, none, none, none, none, none, none, none, none, none, none, none, none, none, none, none, none, none, none]) rfl (Nat.le_of_ble_eq_true rfl) rfl ?_
  refine wpl_new0 rfl rfl (by decide) (by decide) ?_
  refine wpl_sl (n := 2) (pc' := 5) (ls' := [some (.ref 0), none, none, none, none, none, none, none, none, none, none, none, none, none, none, none, none, none, none, none, none]) (st' := [.ref 0, .ref 1, .ref 1]) rfl ?_
  refine wpl_stat (m' := 3) (me' := lm3) (as := [.ref 0]) (r := [.ref 1, .ref 1]) rfl rfl rfl rfl rfl ⟨(by first | decide | exact Nat.le_of_ble_eq_true rfl), (by first | decide | exact Nat.le_of_ble_eq_true rfl), (by first | decide | exact Nat.le_of_ble_eq_true rfl), (by first | decide | exact Nat.le_of_ble_eq_true rfl), rfl⟩ (lal_I (lalI.mono h fun v2 w1 hh => ?_))
  obtain ⟨rfl, h3⟩ := hh
  refine wpl_sl (n := 1) (pc' := 9) (ls' := [some (.ref 0), none, none, none, none, none, none, none, none, none, none, none, none, none, none, none, none, none, none, none, none]) (st' := [.ref 0, .int v2, .ref 1, .ref 1]) rfl ?_
  refine wpl_stat (m' := 4) (me' := lm4) (as := [.ref 0]) (r := [.int v2, .ref 1, .ref 1]) rfl rfl rfl rfl rfl ⟨(by first | decide | exact Nat.le_of_ble_eq_true rfl), (by first | decide | exact Nat.le_of_ble_eq_true rfl), (by first | decide | exact Nat.le_of_ble_eq_true rfl), (by first | decide | exact Nat.le_of_ble_eq_true rfl), rfl⟩ (lal_I (lalI.mono h3 fun v5 w4 hh => ?_))
  obtain ⟨rfl, h6⟩ := hh
  refine wpl_ctor0 (me' := cm0) (as := [.int v2, .int v5]) (r := [.ref 1]) rfl rfl rfl rfl rfl ⟨by decide, by decide, rfl, by decide, by decide⟩ (calV.mono h6 fun s7 h8 => ?_)
  refine wpl_sl (n := 2) (pc' := 17) (ls' := [some (.ref 0), some (.ref 1), none, none, none, none, none, none, none, none, none, none, none, none, none, none, none, none, none, none, none]) (st' := [.ref 0]) rfl ?_
  refine wpl_stat (m' := 5) (me' := lm5) (as := [.ref 0]) (r := []) rfl rfl rfl rfl rfl ⟨(by first | decide | exact Nat.le_of_ble_eq_true rfl), (by first | decide | exact Nat.le_of_ble_eq_true rfl), (by first | decide | exact Nat.le_of_ble_eq_true rfl), (by first | decide | exact Nat.le_of_ble_eq_true rfl), rfl⟩ (lal_I (lalI.mono h8 fun v10 w9 hh => ?_))
  obtain ⟨s12, rfl, h11⟩ := hh
  refine wpl_sl (n := 3) (pc' := 23) (ls' := [some (.ref 0), some (.ref 1), some (.int v10), some (.int (0 : Int32)), none, none, none, none, none, none, none, none, none, none, none, none, none, none, none, none, none]) (st' := []) rfl ?_
  exact h11
theorem l0_23 (N : Nat) (sg : Nat → Int32) (x2 : Int32) (x3 : Int32)  (Q : Int32 → Wd → Prop) (h : ((x3 < x2) → lalI PP QQ (some (N, sg)) 6 [.ref 0, .int x3] (W1 s) (fun v17 w16 => ∃ s19, w16 = W1 s19 ∧ (calI PP 3 14 [.ref 0, .int v17] s19 (fun v21 s20 => lalI PP QQ (some (N, sg)) 7 [.ref 0, .int x3] (W1 s20) (fun v24 w23 => ∃ s26, w23 = W1 s26 ∧ (wplI PP QQ (some (N, sg)) 0 lm0 48 [some (.ref 0), some (.ref 1), some (.int x2), some (.int x3), some (.int v24), some (.int (0 : Int32)), none, none, none, none, none, none, none, none, none, none, none, none, none, none, none] [] (W1 s26) Q)))))) ∧ (¬ (x3 < x2) → lalI PP QQ (some (N, sg)) 2 [.ref 0, .int (67 : Int32)] (W1 s) (fun v28 w27 => ∃ s30, w27 = W1 s30 ∧ (wplI PP QQ (some (N, sg)) 0 lm0 95 [some (.ref 0), some (.ref 1), some (.int x2), some (.int (v28 &&& (31 : Int32))), some (.int (0 : Int32)), some (.int (0 : Int32)), none, none, none, none, none, none, none, none, none, none, none, none, none, none, none] [] (W1 s30) Q)))) : wplI PP QQ (some (N, sg)) 0 lm0 23 [some (.ref 0), some (.ref 1), some (.int x2), some (.int x3), none, none, none, none, none, none, none, none, none, none, none, none, none, none, none, none, none] [] (W1 s) Q := by
  refine wpl_sl (n := 2) (pc' := 25) (ls' := [some (.ref 0), some (.ref 1), some (.int x2), some (.int x3), none, none, none, none, none, none, none, none, none, none, none, none, none, none, none, none, none]) (st' := [.int x2, .int x3]) rfl ?_
  refine wpl_icmp (a := 79) (b := 28) rfl (by decide) rfl rfl (wpl_br (p := x3 < x2) ⟨fun hc13 => ?_, fun hc13 => ?_⟩)
  · have h14 := h.1 hc13
    refine wpl_sl (n := 3) (pc' := 31) (ls' := [some (.ref 0), some (.ref 1), some (.int x2), some (.int x3), none, none, none, none, none, none, none, none, none, none, none, none, none, none, none, none, none]) (st' := [.int x3, .ref 0, .ref 1]) rfl ?_
    refine wpl_stat (m' := 6) (me' := lm6) (as := [.ref 0, .int x3]) (r := [.ref 1]) rfl rfl rfl rfl rfl ⟨(by first | decide | exact Nat.le_of_ble_eq_true rfl), (by first | decide | exact Nat.le_of_ble_eq_true rfl), (by first | decide | exact Nat.le_of_ble_eq_true rfl), (by first | decide | exact Nat.le_of_ble_eq_true rfl), rfl⟩ (lal_I (lalI.mono h14 fun v17 w16 hh => ?_))
    obtain ⟨s19, rfl, h18⟩ := hh
    refine wpl_v1 (m' := 3) (me' := cm3) (as := [.int v17]) (r := []) rfl rfl rfl rfl rfl ⟨by decide, (by first | decide | exact Nat.le_of_ble_eq_true rfl), (by first | decide | exact Nat.le_of_ble_eq_true rfl), rfl⟩ (cal_I (calI.mono h18 fun v21 s20 h22 => ?_))
    refine wpl_sl (n := 3) (pc' := 40) (ls' := [some (.ref 0), some (.ref 1), some (.int x2), some (.int x3), none, none, none, none, none, none, none, none, none, none, none, none, none, none, none, none, none]) (st' := [.int x3, .ref 0]) rfl ?_
    refine wpl_stat (m' := 7) (me' := lm7) (as := [.ref 0, .int x3]) (r := []) rfl rfl rfl rfl rfl ⟨(by first | decide | exact Nat.le_of_ble_eq_true rfl), (by first | decide | exact Nat.le_of_ble_eq_true rfl), (by first | decide | exact Nat.le_of_ble_eq_true rfl), (by first | decide | exact Nat.le_of_ble_eq_true rfl), rfl⟩ (lal_I (lalI.mono h22 fun v24 w23 hh => ?_))
    obtain ⟨s26, rfl, h25⟩ := hh
    refine wpl_sl (n := 3) (pc' := 48) (ls' := [some (.ref 0), some (.ref 1), some (.int x2), some (.int x3), some (.int v24), some (.int (0 : Int32)), none, none, none, none, none, none, none, none, none, none, none, none, none, none, none]) (st' := []) rfl ?_
    exact h25
  · have h15 := h.2 hc13
    refine wpl_sl (n := 2) (pc' := 82) (ls' := [some (.ref 0), some (.ref 1), some (.int x2), some (.int x3), none, none, none, none, none, none, none, none, none, none, none, none, none, none, none, none, none]) (st' := [.int (67 : Int32), .ref 0]) rfl ?_
    refine wpl_stat (m' := 2) (me' := lm2) (as := [.ref 0, .int (67 : Int32)]) (r := []) rfl rfl rfl rfl rfl ⟨(by first | decide | exact Nat.le_of_ble_eq_true rfl), (by first | decide | exact Nat.le_of_ble_eq_true rfl), (by first | decide | exact Nat.le_of_ble_eq_true rfl), (by first | decide | exact Nat.le_of_ble_eq_true rfl), rfl⟩ (lal_I (lalI.mono h15 fun v28 w27 hh => ?_))
    obtain ⟨s30, rfl, h29⟩ := hh
    refine wpl_sl (n := 7) (pc' := 95) (ls' := [some (.ref 0), some (.ref 1), some (.int x2), some (.int (v28 &&& (31 : Int32))), some (.int (0 : Int32)), some (.int (0 : Int32)), none, none, none, none, none, none, none, none, none, none, none, none, none, none, none]) (st' := []) rfl ?_
    exact h29
theorem l0_48 (N : Nat) (sg : Nat → Int32) (x2 : Int32) (x3 : Int32) (x4 : Int32) (x5 : Int32)  (Q : Int32 → Wd → Prop) (h : ((x5 < x4) → lalI PP QQ (some (N, sg)) 8 [.ref 0, .int x3, .int x5] (W1 s) (fun v35 w34 => ∃ s37, w34 = W1 s37 ∧ (calI PP 4 14 [.ref 0, .int v35] s37 (fun v39 s38 => wplI PP QQ (some (N, sg)) 0 lm0 48 [some (.ref 0), some (.ref 1), some (.int x2), some (.int x3), some (.int x4), some (.int (x5 + (1 : Int32))), none, none, none, none, none, none, none, none, none, none, none, none, none, none, none] [] (W1 s38) Q)))) ∧ (¬ (x5 < x4) → wplI PP QQ (some (N, sg)) 0 lm0 23 [some (.ref 0), some (.ref 1), some (.int x2), some (.int (x3 + (1 : Int32))), none, none, none, none, none, none, none, none, none, none, none, none, none, none, none, none, none] [] (W1 s) Q)) : wplI PP QQ (some (N, sg)) 0 lm0 48 [some (.ref 0), some (.ref 1), some (.int x2), some (.int x3), some (.int x4), some (.int x5), none, none, none, none, none, none, none, none, none, none, none, none, none, none, none] [] (W1 s) Q := by
  refine wpl_sl (n := 2) (pc' := 52) (ls' := [some (.ref 0), some (.ref 1), some (.int x2), some (.int x3), some (.int x4), some (.int x5), none, none, none, none, none, none, none, none, none, none, none, none, none, none, none]) (st' := [.int x4, .int x5]) rfl ?_
  refine wpl_icmp (a := 73) (b := 55) rfl (by decide) rfl rfl (wpl_br (p := x5 < x4) ⟨fun hc31 => ?_, fun hc31 => ?_⟩)
  · have h32 := h.1 hc31
    refine wpl_sl (n := 4) (pc' := 60) (ls' := [some (.ref 0), some (.ref 1), some (.int x2), some (.int x3), some (.int x4), some (.int x5), none, none, none, none, none, none, none, none, none, none, none, none, none, none, none]) (st' := [.int x5, .int x3, .ref 0, .ref 1]) rfl ?_
    refine wpl_stat (m' := 8) (me' := lm8) (as := [.ref 0, .int x3, .int x5]) (r := [.ref 1]) rfl rfl rfl rfl rfl ⟨(by first | decide | exact Nat.le_of_ble_eq_true rfl), (by first | decide | exact Nat.le_of_ble_eq_true rfl), (by first | decide | exact Nat.le_of_ble_eq_true rfl), (by first | decide | exact Nat.le_of_ble_eq_true rfl), rfl⟩ (lal_I (lalI.mono h32 fun v35 w34 hh => ?_))
    obtain ⟨s37, rfl, h36⟩ := hh
    refine wpl_v1 (m' := 4) (me' := cm4) (as := [.int v35]) (r := []) rfl rfl rfl rfl rfl ⟨by decide, (by first | decide | exact Nat.le_of_ble_eq_true rfl), (by first | decide | exact Nat.le_of_ble_eq_true rfl), rfl⟩ (cal_I (calI.mono h36 fun v39 s38 h40 => ?_))
    refine wpl_sl (n := 3) (pc' := 48) (ls' := [some (.ref 0), some (.ref 1), some (.int x2), some (.int x3), some (.int x4), some (.int (x5 + (1 : Int32))), none, none, none, none, none, none, none, none, none, none, none, none, none, none, none]) (st' := []) rfl ?_
    exact h40
  · have h33 := h.2 hc31
    refine wpl_sl (n := 2) (pc' := 23) (ls' := [some (.ref 0), some (.ref 1), some (.int x2), some (.int (x3 + (1 : Int32))), some (.int x4), some (.int x5), none, none, none, none, none, none, none, none, none, none, none, none, none, none, none]) (st' := []) rfl ?_
    exact wpl_lle (ls := [some (.ref 0), some (.ref 1), some (.int x2), some (.int (x3 + (1 : Int32))), none, none, none, none, none, none, none, none, none, none, none, none, none, none, none, none, none]) ⟨rfl, rfl, rfl, rfl, trivial⟩ h33
theorem l0_95 (N : Nat) (sg : Nat → Int32) (x2 : Int32) (x3 : Int32) (x4 : Int32) (x5 : Int32)  (Q : Int32 → Wd → Prop) (h : ((x5 < x3) → lalI PP QQ (some (N, sg)) 9 [.ref 0, .int x5] (W1 s) (fun v45 w44 => ∃ s47, w44 = W1 s47 ∧ (calI PP 21 14 [.ref 0, .int v45] s47 (fun v49 s48 => ∀ m51, m51 = (if v49 = (0 : Int32) then x4 else (x4 + (1 : Int32))) → (wplI PP QQ (some (N, sg)) 0 lm0 95 [some (.ref 0), some (.ref 1), some (.int x2), some (.int x3), some (.int m51), some (.int (x5 + (1 : Int32))), none, none, none, none, none, none, none, none, none, none, none, none, none, none, none] [] (W1 s48) Q))))) ∧ (¬ (x5 < x3) → calI PP 6 14 [.ref 0] s (fun v56 s55 => calI PP 22 14 [.ref 0] s55 (fun v59 s58 => ((v59 = (0 : Int32)) → wplI PP QQ (some (N, sg)) 0 lm0 148 [some (.ref 0), some (.ref 1), some (.int x2), none, some (.int x4), some (.int v56), some (.int v59), none, none, none, none, none, none, none, none, none, none, none, none, none, none] [] (W1 s58) Q) ∧ (¬ (v59 = (0 : Int32)) → ((v59 = (1 : Int32)) → wplI PP QQ (some (N, sg)) 0 lm0 148 [some (.ref 0), some (.ref 1), some (.int x2), none, some (.int x4), some (.int v56), some (.int v59), none, none, none, none, none, none, none, none, none, none, none, none, none, none] [] (W1 s58) Q) ∧ (¬ (v59 = (1 : Int32)) → Q (1 : Int32) (W1 s58))))))) : wplI PP QQ (some (N, sg)) 0 lm0 95 [some (.ref 0), some (.ref 1), some (.int x2), some (.int x3), some (.int x4), some (.int x5), none, none, none, none, none, none, none, none, none, none, none, none, none, none, none] [] (W1 s) Q := by
  refine wpl_sl (n := 2) (pc' := 98) (ls' := [some (.ref 0), some (.ref 1), some (.int x2), some (.int x3), some (.int x4), some (.int x5), none, none, none, none, none, none, none, none, none, none, none, none, none, none, none]) (st' := [.int x3, .int x5]) rfl ?_
  refine wpl_icmp (a := 123) (b := 101) rfl (by decide) rfl rfl (wpl_br (p := x5 < x3) ⟨fun hc41 => ?_, fun hc41 => ?_⟩)
  · have h42 := h.1 hc41
    refine wpl_sl (n := 3) (pc' := 105) (ls' := [some (.ref 0), some (.ref 1), some (.int x2), some (.int x3), some (.int x4), some (.int x5), none, none, none, none, none, none, none, none, none, none, none, none, none, none, none]) (st' := [.int x5, .ref 0, .ref 1]) rfl ?_
    refine wpl_stat (m' := 9) (me' := lm9) (as := [.ref 0, .int x5]) (r := [.ref 1]) rfl rfl rfl rfl rfl ⟨(by first | decide | exact Nat.le_of_ble_eq_true rfl), (by first | decide | exact Nat.le_of_ble_eq_true rfl), (by first | decide | exact Nat.le_of_ble_eq_true rfl), (by first | decide | exact Nat.le_of_ble_eq_true rfl), rfl⟩ (lal_I (lalI.mono h42 fun v45 w44 hh => ?_))
    obtain ⟨s47, rfl, h46⟩ := hh
    refine wpl_v1 (m' := 21) (me' := cm21) (as := [.int v45]) (r := []) rfl rfl rfl rfl rfl ⟨by decide, (by first | decide | exact Nat.le_of_ble_eq_true rfl), (by first | decide | exact Nat.le_of_ble_eq_true rfl), rfl⟩ (cal_I (calI.mono h46 fun v49 s48 h50 => ?_))
    have hm52 : ∀ m51, m51 = (if v49 = (0 : Int32) then x4 else (x4 + (1 : Int32))) → wplI PP QQ (some (N, sg)) 0 lm0 117 [some (.ref 0), some (.ref 1), some (.int x2), some (.int x3), some (.int m51), some (.int x5), none, none, none, none, none, none, none, none, none, none, none, none, none, none, none] [] (W1 s48) Q := by
      intro m51 em51
      have h53 := h50 m51 em51
      refine wpl_sl (n := 2) (pc' := 95) (ls' := [some (.ref 0), some (.ref 1), some (.int x2), some (.int x3), some (.int m51), some (.int (x5 + (1 : Int32))), none, none, none, none, none, none, none, none, none, none, none, none, none, none, none]) (st' := []) rfl ?_
      exact h53
    refine wpl_if (a := 117) (b := 114) rfl (by decide) rfl rfl (wpl_br (p := v49 = (0 : Int32)) ⟨fun hc54 => ?_, fun hc54 => ?_⟩)
    · first | exact hm52 _ (by simp only [if_pos hc54]) | exact wpl_lle (by repeat (first | exact trivial | refine ⟨rfl, ?_⟩)) (hm52 _ (by simp only [if_pos hc54]))
    · refine wpl_sl (n := 1) (pc' := 117) (ls' := [some (.ref 0), some (.ref 1), some (.int x2), some (.int x3), some (.int (x4 + (1 : Int32))), some (.int x5), none, none, none, none, none, none, none, none, none, none, none, none, none, none, none]) (st' := []) rfl ?_
      first | exact hm52 _ (by simp only [if_neg hc54]) | exact wpl_lle (by repeat (first | exact trivial | refine ⟨rfl, ?_⟩)) (hm52 _ (by simp only [if_neg hc54]))
  · have h43 := h.2 hc41
    refine wpl_sl (n := 1) (pc' := 124) (ls' := [some (.ref 0), some (.ref 1), some (.int x2), some (.int x3), some (.int x4), some (.int x5), none, none, none, none, none, none, none, none, none, none, none, none, none, none, none]) (st' := [.ref 1]) rfl ?_
    refine wpl_v1 (m' := 6) (me' := cm6) (as := []) (r := []) rfl rfl rfl rfl rfl ⟨by decide, (by first | decide | exact Nat.le_of_ble_eq_true rfl), (by first | decide | exact Nat.le_of_ble_eq_true rfl), rfl⟩ (cal_I (calI.mono h43 fun v56 s55 h57 => ?_))
    refine wpl_sl (n := 2) (pc' := 130) (ls' := [some (.ref 0), some (.ref 1), some (.int x2), some (.int x3), some (.int x4), some (.int v56), none, none, none, none, none, none, none, none, none, none, none, none, none, none, none]) (st' := [.ref 1]) rfl ?_
    refine wpl_v1 (m' := 22) (me' := cm22) (as := []) (r := []) rfl rfl rfl rfl rfl ⟨by decide, (by first | decide | exact Nat.le_of_ble_eq_true rfl), (by first | decide | exact Nat.le_of_ble_eq_true rfl), rfl⟩ (cal_I (calI.mono h57 fun v59 s58 h60 => ?_))
    refine wpl_sl (n := 2) (pc' := 137) (ls' := [some (.ref 0), some (.ref 1), some (.int x2), some (.int x3), some (.int x4), some (.int v56), some (.int v59), none, none, none, none, none, none, none, none, none, none, none, none, none, none]) (st' := [.int v59]) rfl ?_
    refine wpl_if (a := 148) (b := 140) rfl (by decide) rfl rfl (wpl_br (p := v59 = (0 : Int32)) ⟨fun hc61 => ?_, fun hc61 => ?_⟩)
    · have h62 := h60.1 hc61
      exact wpl_lle (ls := [some (.ref 0), some (.ref 1), some (.int x2), none, some (.int x4), some (.int v56), some (.int v59), none, none, none, none, none, none, none, none, none, none, none, none, none, none]) ⟨rfl, rfl, rfl, rfl, rfl, rfl, trivial⟩ h62
    · have h63 := h60.2 hc61
      refine wpl_sl (n := 2) (pc' := 143) (ls' := [some (.ref 0), some (.ref 1), some (.int x2), some (.int x3), some (.int x4), some (.int v56), some (.int v59), none, none, none, none, none, none, none, none, none, none, none, none, none, none]) (st' := [.int (1 : Int32), .int v59]) rfl ?_
      refine wpl_icmp (a := 148) (b := 146) rfl (by decide) rfl rfl (wpl_br (p := v59 = (1 : Int32)) ⟨fun hc64 => ?_, fun hc64 => ?_⟩)
      · have h65 := h63.1 hc64
        exact wpl_lle (ls := [some (.ref 0), some (.ref 1), some (.int x2), none, some (.int x4), some (.int v56), some (.int v59), none, none, none, none, none, none, none, none, none, none, none, none, none, none]) ⟨rfl, rfl, rfl, rfl, rfl, rfl, trivial⟩ h65
      · have h66 := h63.2 hc64
        refine wpl_sl (n := 1) (pc' := 147) (ls' := [some (.ref 0), some (.ref 1), some (.int x2), some (.int x3), some (.int x4), some (.int v56), some (.int v59), none, none, none, none, none, none, none, none, none, none, none, none, none, none]) (st' := [.int (1 : Int32)]) rfl ?_
        exact wpl_ret rfl rfl rfl ⟨(1 : Int32), rfl, h66⟩
theorem l0_148 (N : Nat) (sg : Nat → Int32) (x2 : Int32) (x4 : Int32) (x5 : Int32) (x6 : Int32)  (Q : Int32 → Wd → Prop) (h : calI PP 34 14 [.ref 0] s (fun v68 s67 => calI PP 32 14 [.ref 0] s67 (fun v71 s70 => (((256 : Int32) < v68) → Q (0 : Int32) (W1 s70)) ∧ (¬ ((256 : Int32) < v68) → ((((32 : Int32) + v68) < v71) → Q (0 : Int32) (W1 s70)) ∧ (¬ (((32 : Int32) + v68) < v71) → ∀ m79, m79 = (if x5 = (0 : Int32) then (if x6 = (0 : Int32) then (1 : Int32) else (0 : Int32)) else (0 : Int32)) → (wplI PP QQ (some (N, sg)) 0 lm0 202 [some (.ref 0), some (.ref 1), some (.int x2), none, some (.int x4), none, none, some (.int v68), some (.int v71), some (.int m79), some (.int (0 : Int32)), none, none, none, none, none, none, none, none, none, none] [] (W1 s70) Q)))))) : wplI PP QQ (some (N, sg)) 0 lm0 148 [some (.ref 0), some (.ref 1), some (.int x2), none, some (.int x4), some (.int x5), some (.int x6), none, none, none, none, none, none, none, none, none, none, none, none, none, none] [] (W1 s) Q := by
  refine wpl_sl (n := 1) (pc' := 149) (ls' := [some (.ref 0), some (.ref 1), some (.int x2), none, some (.int x4), some (.int x5), some (.int x6), none, none, none, none, none, none, none, none, none, none, none, none, none, none]) (st' := [.ref 1]) rfl ?_
  refine wpl_v1 (m' := 34) (me' := cm34) (as := []) (r := []) rfl rfl rfl rfl rfl ⟨by decide, (by first | decide | exact Nat.le_of_ble_eq_true rfl), (by first | decide | exact Nat.le_of_ble_eq_true rfl), rfl⟩ (cal_I (calI.mono h fun v68 s67 h69 => ?_))
  refine wpl_sl (n := 2) (pc' := 155) (ls' := [some (.ref 0), some (.ref 1), some (.int x2), none, some (.int x4), some (.int x5), some (.int x6), some (.int v68), none, none, none, none, none, none, none, none, none, none, none, none, none]) (st' := [.ref 1]) rfl ?_
  refine wpl_v1 (m' := 32) (me' := cm32) (as := []) (r := []) rfl rfl rfl rfl rfl ⟨by decide, (by first | decide | exact Nat.le_of_ble_eq_true rfl), (by first | decide | exact Nat.le_of_ble_eq_true rfl), rfl⟩ (cal_I (calI.mono h69 fun v71 s70 h72 => ?_))
  refine wpl_sl (n := 3) (pc' := 165) (ls' := [some (.ref 0), some (.ref 1), some (.int x2), none, some (.int x4), some (.int x5), some (.int x6), some (.int v68), some (.int v71), none, none, none, none, none, none, none, none, none, none, none, none]) (st' := [.int (256 : Int32), .int v68]) rfl ?_
  refine wpl_icmp (a := 170) (b := 168) rfl (by decide) rfl rfl (wpl_br (p := (256 : Int32) < v68) ⟨fun hc73 => ?_, fun hc73 => ?_⟩)
  · have h74 := h72.1 hc73
    refine wpl_sl (n := 1) (pc' := 169) (ls' := [some (.ref 0), some (.ref 1), some (.int x2), none, some (.int x4), some (.int x5), some (.int x6), some (.int v68), some (.int v71), none, none, none, none, none, none, none, none, none, none, none, none]) (st' := [.int (0 : Int32)]) rfl ?_
    exact wpl_ret rfl rfl rfl ⟨(0 : Int32), rfl, h74⟩
  · have h75 := h72.2 hc73
    refine wpl_sl (n := 4) (pc' := 177) (ls' := [some (.ref 0), some (.ref 1), some (.int x2), none, some (.int x4), some (.int x5), some (.int x6), some (.int v68), some (.int v71), none, none, none, none, none, none, none, none, none, none, none, none]) (st' := [.int ((32 : Int32) + v68), .int v71]) rfl ?_
    refine wpl_icmp (a := 182) (b := 180) rfl (by decide) rfl rfl (wpl_br (p := ((32 : Int32) + v68) < v71) ⟨fun hc76 => ?_, fun hc76 => ?_⟩)
    · have h77 := h75.1 hc76
      refine wpl_sl (n := 1) (pc' := 181) (ls' := [some (.ref 0), some (.ref 1), some (.int x2), none, some (.int x4), some (.int x5), some (.int x6), some (.int v68), some (.int v71), none, none, none, none, none, none, none, none, none, none, none, none]) (st' := [.int (0 : Int32)]) rfl ?_
      exact wpl_ret rfl rfl rfl ⟨(0 : Int32), rfl, h77⟩
    · have h78 := h75.2 hc76
      refine wpl_sl (n := 1) (pc' := 184) (ls' := [some (.ref 0), some (.ref 1), some (.int x2), none, some (.int x4), some (.int x5), some (.int x6), some (.int v68), some (.int v71), none, none, none, none, none, none, none, none, none, none, none, none]) (st' := [.int x5]) rfl ?_
      have hm80 : ∀ m79, m79 = (if x5 = (0 : Int32) then (if x6 = (0 : Int32) then (1 : Int32) else (0 : Int32)) else (0 : Int32)) → wplI PP QQ (some (N, sg)) 0 lm0 197 [some (.ref 0), some (.ref 1), some (.int x2), none, some (.int x4), some (.int x5), some (.int x6), some (.int v68), some (.int v71), none, none, none, none, none, none, none, none, none, none, none, none] [.int m79] (W1 s70) Q := by
        intro m79 em79
        have h81 := h78 m79 em79
        refine wpl_sl (n := 3) (pc' := 202) (ls' := [some (.ref 0), some (.ref 1), some (.int x2), none, some (.int x4), some (.int x5), some (.int x6), some (.int v68), some (.int v71), some (.int m79), some (.int (0 : Int32)), none, none, none, none, none, none, none, none, none, none]) (st' := []) rfl ?_
        exact wpl_lle (ls := [some (.ref 0), some (.ref 1), some (.int x2), none, some (.int x4), none, none, some (.int v68), some (.int v71), some (.int m79), some (.int (0 : Int32)), none, none, none, none, none, none, none, none, none, none]) ⟨rfl, rfl, rfl, rfl, rfl, rfl, rfl, rfl, trivial⟩ h81
      refine wpl_if (a := 196) (b := 187) rfl (by decide) rfl rfl (wpl_br (p := x5 = (0 : Int32)) ⟨fun hc82 => ?_, fun hc82 => ?_⟩)
      · refine wpl_sl (n := 1) (pc' := 189) (ls' := [some (.ref 0), some (.ref 1), some (.int x2), none, some (.int x4), some (.int x5), some (.int x6), some (.int v68), some (.int v71), none, none, none, none, none, none, none, none, none, none, none, none]) (st' := [.int x6]) rfl ?_
        refine wpl_if (a := 196) (b := 192) rfl (by decide) rfl rfl (wpl_br (p := x6 = (0 : Int32)) ⟨fun hc83 => ?_, fun hc83 => ?_⟩)
        · refine wpl_sl (n := 2) (pc' := 197) (ls' := [some (.ref 0), some (.ref 1), some (.int x2), none, some (.int x4), some (.int x5), some (.int x6), some (.int v68), some (.int v71), none, none, none, none, none, none, none, none, none, none, none, none]) (st' := [.int (1 : Int32)]) rfl ?_
          first | exact hm80 _ (by simp only [if_pos hc82, if_pos hc83]) | exact wpl_lle (by repeat (first | exact trivial | refine ⟨rfl, ?_⟩)) (hm80 _ (by simp only [if_pos hc82, if_pos hc83]))
        · refine wpl_sl (n := 1) (pc' := 197) (ls' := [some (.ref 0), some (.ref 1), some (.int x2), none, some (.int x4), some (.int x5), some (.int x6), some (.int v68), some (.int v71), none, none, none, none, none, none, none, none, none, none, none, none]) (st' := [.int (0 : Int32)]) rfl ?_
          first | exact hm80 _ (by simp only [if_pos hc82, if_neg hc83]) | exact wpl_lle (by repeat (first | exact trivial | refine ⟨rfl, ?_⟩)) (hm80 _ (by simp only [if_pos hc82, if_neg hc83]))
      · refine wpl_sl (n := 1) (pc' := 197) (ls' := [some (.ref 0), some (.ref 1), some (.int x2), none, some (.int x4), some (.int x5), some (.int x6), some (.int v68), some (.int v71), none, none, none, none, none, none, none, none, none, none, none, none]) (st' := [.int (0 : Int32)]) rfl ?_
        first | exact hm80 _ (by simp only [if_neg hc82]) | exact wpl_lle (by repeat (first | exact trivial | refine ⟨rfl, ?_⟩)) (hm80 _ (by simp only [if_neg hc82]))
theorem l0_202 (N : Nat) (sg : Nat → Int32) (x2 : Int32) (x4 : Int32) (x7 : Int32) (x8 : Int32) (x9 : Int32) (x10 : Int32)  (Q : Int32 → Wd → Prop) (h : ((x10 < x7) → calI PP 35 14 [.ref 0, .int x10] s (fun v88 s87 => calI PP 37 14 [.ref 0, .int x10] s87 (fun v91 s90 => ((x9 = (0 : Int32)) → wplI PP QQ (some (N, sg)) 0 lm0 238 [some (.ref 0), some (.ref 1), some (.int x2), none, some (.int x4), none, none, some (.int x7), some (.int x8), some (.int x9), some (.int x10), some (.int v88), some (.int v91), none, none, none, none, none, none, none, none] [] (W1 s90) Q) ∧ (¬ (x9 = (0 : Int32)) → ((v91 = (-1 : Int32)) → Q (0 : Int32) (W1 s90)) ∧ (¬ (v91 = (-1 : Int32)) → wplI PP QQ (some (N, sg)) 0 lm0 238 [some (.ref 0), some (.ref 1), some (.int x2), none, some (.int x4), none, none, some (.int x7), some (.int x8), some (.int x9), some (.int x10), some (.int v88), some (.int v91), none, none, none, none, none, none, none, none] [] (W1 s90) Q))))) ∧ (¬ (x10 < x7) → wplI PP QQ (some (N, sg)) 0 lm0 388 [some (.ref 0), some (.ref 1), none, none, some (.int x4), none, none, some (.int x7), some (.int x8), some (.int x9), some (.int (-1 : Int32)), some (.int (0 : Int32)), some (.int (0 : Int32)), some (.int (0 : Int32)), none, none, none, none, none, none, none] [] (W1 s) Q)) : wplI PP QQ (some (N, sg)) 0 lm0 202 [some (.ref 0), some (.ref 1), some (.int x2), none, some (.int x4), none, none, some (.int x7), some (.int x8), some (.int x9), some (.int x10), none, none, none, none, none, none, none, none, none, none] [] (W1 s) Q := by
  refine wpl_sl (n := 2) (pc' := 206) (ls' := [some (.ref 0), some (.ref 1), some (.int x2), none, some (.int x4), none, none, some (.int x7), some (.int x8), some (.int x9), some (.int x10), none, none, none, none, none, none, none, none, none, none]) (st' := [.int x7, .int x10]) rfl ?_
  refine wpl_icmp (a := 376) (b := 209) rfl (by decide) rfl rfl (wpl_br (p := x10 < x7) ⟨fun hc84 => ?_, fun hc84 => ?_⟩)
  · have h85 := h.1 hc84
    refine wpl_sl (n := 2) (pc' := 212) (ls' := [some (.ref 0), some (.ref 1), some (.int x2), none, some (.int x4), none, none, some (.int x7), some (.int x8), some (.int x9), some (.int x10), none, none, none, none, none, none, none, none, none, none]) (st' := [.int x10, .ref 1]) rfl ?_
    refine wpl_v1 (m' := 35) (me' := cm35) (as := [.int x10]) (r := []) rfl rfl rfl rfl rfl ⟨by decide, (by first | decide | exact Nat.le_of_ble_eq_true rfl), (by first | decide | exact Nat.le_of_ble_eq_true rfl), rfl⟩ (cal_I (calI.mono h85 fun v88 s87 h89 => ?_))
    refine wpl_sl (n := 3) (pc' := 220) (ls' := [some (.ref 0), some (.ref 1), some (.int x2), none, some (.int x4), none, none, some (.int x7), some (.int x8), some (.int x9), some (.int x10), some (.int v88), none, none, none, none, none, none, none, none, none]) (st' := [.int x10, .ref 1]) rfl ?_
    refine wpl_v1 (m' := 37) (me' := cm37) (as := [.int x10]) (r := []) rfl rfl rfl rfl rfl ⟨by decide, (by first | decide | exact Nat.le_of_ble_eq_true rfl), (by first | decide | exact Nat.le_of_ble_eq_true rfl), rfl⟩ (cal_I (calI.mono h89 fun v91 s90 h92 => ?_))
    refine wpl_sl (n := 2) (pc' := 227) (ls' := [some (.ref 0), some (.ref 1), some (.int x2), none, some (.int x4), none, none, some (.int x7), some (.int x8), some (.int x9), some (.int x10), some (.int v88), some (.int v91), none, none, none, none, none, none, none, none]) (st' := [.int x9]) rfl ?_
    refine wpl_if (a := 238) (b := 230) rfl (by decide) rfl rfl (wpl_br (p := x9 = (0 : Int32)) ⟨fun hc93 => ?_, fun hc93 => ?_⟩)
    · have h94 := h92.1 hc93
      exact h94
    · have h95 := h92.2 hc93
      refine wpl_sl (n := 2) (pc' := 233) (ls' := [some (.ref 0), some (.ref 1), some (.int x2), none, some (.int x4), none, none, some (.int x7), some (.int x8), some (.int x9), some (.int x10), some (.int v88), some (.int v91), none, none, none, none, none, none, none, none]) (st' := [.int (-1 : Int32), .int v91]) rfl ?_
      refine wpl_icmp (a := 238) (b := 236) rfl (by decide) rfl rfl (wpl_br (p := v91 = (-1 : Int32)) ⟨fun hc96 => ?_, fun hc96 => ?_⟩)
      · have h97 := h95.1 hc96
        refine wpl_sl (n := 1) (pc' := 237) (ls' := [some (.ref 0), some (.ref 1), some (.int x2), none, some (.int x4), none, none, some (.int x7), some (.int x8), some (.int x9), some (.int x10), some (.int v88), some (.int v91), none, none, none, none, none, none, none, none]) (st' := [.int (0 : Int32)]) rfl ?_
        exact wpl_ret rfl rfl rfl ⟨(0 : Int32), rfl, h97⟩
      · have h98 := h95.2 hc96
        exact h98
  · have h86 := h.2 hc84
    refine wpl_sl (n := 8) (pc' := 388) (ls' := [some (.ref 0), some (.ref 1), some (.int x2), none, some (.int x4), none, none, some (.int x7), some (.int x8), some (.int x9), some (.int (-1 : Int32)), some (.int (0 : Int32)), some (.int (0 : Int32)), some (.int (0 : Int32)), none, none, none, none, none, none, none]) (st' := []) rfl ?_
    exact wpl_lle (ls := [some (.ref 0), some (.ref 1), none, none, some (.int x4), none, none, some (.int x7), some (.int x8), some (.int x9), some (.int (-1 : Int32)), some (.int (0 : Int32)), some (.int (0 : Int32)), some (.int (0 : Int32)), none, none, none, none, none, none, none]) ⟨rfl, rfl, rfl, rfl, rfl, rfl, rfl, rfl, rfl, rfl, trivial⟩ h86
theorem l0_238 (N : Nat) (sg : Nat → Int32) (x2 : Int32) (x4 : Int32) (x7 : Int32) (x8 : Int32) (x9 : Int32) (x10 : Int32) (x11 : Int32) (x12 : Int32)  (Q : Int32 → Wd → Prop) (h : ∀ m99, m99 = (if x11 < (16 : Int32) then (0 : Int32) else (if x12 < (0 : Int32) then (0 : Int32) else (1 : Int32))) → (((m99 = (0 : Int32)) → wplI PP QQ (some (N, sg)) 0 lm0 284 [some (.ref 0), some (.ref 1), some (.int x2), none, some (.int x4), none, none, some (.int x7), some (.int x8), some (.int x9), some (.int x10), none, some (.int x12), some (.int m99), none, none, none, none, none, none, none] [] (W1 s) Q) ∧ (¬ (m99 = (0 : Int32)) → ((x12 < x2) → lalI PP QQ (some (N, sg)) 6 [.ref 0, .int x12] (W1 s) (fun v109 w108 => ∃ s111, w108 = W1 s111 ∧ (((x11 = ((16 : Int32) + v109)) → wplI PP QQ (some (N, sg)) 0 lm0 284 [some (.ref 0), some (.ref 1), some (.int x2), none, some (.int x4), none, none, some (.int x7), some (.int x8), some (.int x9), some (.int x10), none, some (.int x12), some (.int m99), none, none, none, none, none, none, none] [] (W1 s111) Q) ∧ (¬ (x11 = ((16 : Int32) + v109)) → Q (0 : Int32) (W1 s111))))) ∧ (¬ (x12 < x2) → Q (0 : Int32) (W1 s))))) : wplI PP QQ (some (N, sg)) 0 lm0 238 [some (.ref 0), some (.ref 1), some (.int x2), none, some (.int x4), none, none, some (.int x7), some (.int x8), some (.int x9), some (.int x10), some (.int x11), some (.int x12), none, none, none, none, none, none, none, none] [] (W1 s) Q := by
  refine wpl_sl (n := 2) (pc' := 242) (ls' := [some (.ref 0), some (.ref 1), some (.int x2), none, some (.int x4), none, none, some (.int x7), some (.int x8), some (.int x9), some (.int x10), some (.int x11), some (.int x12), none, none, none, none, none, none, none, none]) (st' := [.int (16 : Int32), .int x11]) rfl ?_
  have hm100 : ∀ m99, m99 = (if x11 < (16 : Int32) then (0 : Int32) else (if x12 < (0 : Int32) then (0 : Int32) else (1 : Int32))) → wplI PP QQ (some (N, sg)) 0 lm0 255 [some (.ref 0), some (.ref 1), some (.int x2), none, some (.int x4), none, none, some (.int x7), some (.int x8), some (.int x9), some (.int x10), some (.int x11), some (.int x12), none, none, none, none, none, none, none, none] [.int m99] (W1 s) Q := by
    intro m99 em99
    have h101 := h m99 em99
    refine wpl_sl (n := 2) (pc' := 259) (ls' := [some (.ref 0), some (.ref 1), some (.int x2), none, some (.int x4), none, none, some (.int x7), some (.int x8), some (.int x9), some (.int x10), some (.int x11), some (.int x12), some (.int m99), none, none, none, none, none, none, none]) (st' := [.int m99]) rfl ?_
    refine wpl_if (a := 284) (b := 262) rfl (by decide) rfl rfl (wpl_br (p := m99 = (0 : Int32)) ⟨fun hc102 => ?_, fun hc102 => ?_⟩)
    · have h103 := h101.1 hc102
      exact wpl_lle (ls := [some (.ref 0), some (.ref 1), some (.int x2), none, some (.int x4), none, none, some (.int x7), some (.int x8), some (.int x9), some (.int x10), none, some (.int x12), some (.int m99), none, none, none, none, none, none, none]) ⟨rfl, rfl, rfl, rfl, rfl, rfl, rfl, rfl, rfl, rfl, trivial⟩ h103
    · have h104 := h101.2 hc102
      refine wpl_sl (n := 2) (pc' := 265) (ls' := [some (.ref 0), some (.ref 1), some (.int x2), none, some (.int x4), none, none, some (.int x7), some (.int x8), some (.int x9), some (.int x10), some (.int x11), some (.int x12), some (.int m99), none, none, none, none, none, none, none]) (st' := [.int x2, .int x12]) rfl ?_
      refine wpl_icmp (a := 282) (b := 268) rfl (by decide) rfl rfl (wpl_br (p := x12 < x2) ⟨fun hc105 => ?_, fun hc105 => ?_⟩)
      · have h106 := h104.1 hc105
        refine wpl_sl (n := 4) (pc' := 275) (ls' := [some (.ref 0), some (.ref 1), some (.int x2), none, some (.int x4), none, none, some (.int x7), some (.int x8), some (.int x9), some (.int x10), some (.int x11), some (.int x12), some (.int m99), none, none, none, none, none, none, none]) (st' := [.int x12, .ref 0, .int (16 : Int32), .int x11]) rfl ?_
        refine wpl_stat (m' := 6) (me' := lm6) (as := [.ref 0, .int x12]) (r := [.int (16 : Int32), .int x11]) rfl rfl rfl rfl rfl ⟨(by first | decide | exact Nat.le_of_ble_eq_true rfl), (by first | decide | exact Nat.le_of_ble_eq_true rfl), (by first | decide | exact Nat.le_of_ble_eq_true rfl), (by first | decide | exact Nat.le_of_ble_eq_true rfl), rfl⟩ (lal_I (lalI.mono h106 fun v109 w108 hh => ?_))
        obtain ⟨s111, rfl, h110⟩ := hh
        refine wpl_sl (n := 1) (pc' := 279) (ls' := [some (.ref 0), some (.ref 1), some (.int x2), none, some (.int x4), none, none, some (.int x7), some (.int x8), some (.int x9), some (.int x10), some (.int x11), some (.int x12), some (.int m99), none, none, none, none, none, none, none]) (st' := [.int ((16 : Int32) + v109), .int x11]) rfl ?_
        refine wpl_icmp (a := 284) (b := 282) rfl (by decide) rfl rfl (wpl_br (p := x11 = ((16 : Int32) + v109)) ⟨fun hc112 => ?_, fun hc112 => ?_⟩)
        · have h113 := h110.1 hc112
          exact wpl_lle (ls := [some (.ref 0), some (.ref 1), some (.int x2), none, some (.int x4), none, none, some (.int x7), some (.int x8), some (.int x9), some (.int x10), none, some (.int x12), some (.int m99), none, none, none, none, none, none, none]) ⟨rfl, rfl, rfl, rfl, rfl, rfl, rfl, rfl, rfl, rfl, trivial⟩ h113
        · have h114 := h110.2 hc112
          refine wpl_sl (n := 1) (pc' := 283) (ls' := [some (.ref 0), some (.ref 1), some (.int x2), none, some (.int x4), none, none, some (.int x7), some (.int x8), some (.int x9), some (.int x10), some (.int x11), some (.int x12), some (.int m99), none, none, none, none, none, none, none]) (st' := [.int (0 : Int32)]) rfl ?_
          exact wpl_ret rfl rfl rfl ⟨(0 : Int32), rfl, h114⟩
      · have h107 := h104.2 hc105
        refine wpl_sl (n := 1) (pc' := 283) (ls' := [some (.ref 0), some (.ref 1), some (.int x2), none, some (.int x4), none, none, some (.int x7), some (.int x8), some (.int x9), some (.int x10), some (.int x11), some (.int x12), some (.int m99), none, none, none, none, none, none, none]) (st' := [.int (0 : Int32)]) rfl ?_
        exact wpl_ret rfl rfl rfl ⟨(0 : Int32), rfl, h107⟩
  refine wpl_icmp (a := 254) (b := 245) rfl (by decide) rfl rfl (wpl_br (p := x11 < (16 : Int32)) ⟨fun hc115 => ?_, fun hc115 => ?_⟩)
  · refine wpl_sl (n := 1) (pc' := 255) (ls' := [some (.ref 0), some (.ref 1), some (.int x2), none, some (.int x4), none, none, some (.int x7), some (.int x8), some (.int x9), some (.int x10), some (.int x11), some (.int x12), none, none, none, none, none, none, none, none]) (st' := [.int (0 : Int32)]) rfl ?_
    first | exact hm100 _ (by simp only [if_pos hc115]) | exact wpl_lle (by repeat (first | exact trivial | refine ⟨rfl, ?_⟩)) (hm100 _ (by simp only [if_pos hc115]))
  · refine wpl_sl (n := 1) (pc' := 247) (ls' := [some (.ref 0), some (.ref 1), some (.int x2), none, some (.int x4), none, none, some (.int x7), some (.int x8), some (.int x9), some (.int x10), some (.int x11), some (.int x12), none, none, none, none, none, none, none, none]) (st' := [.int x12]) rfl ?_
    refine wpl_if (a := 254) (b := 250) rfl (by decide) rfl rfl (wpl_br (p := x12 < (0 : Int32)) ⟨fun hc116 => ?_, fun hc116 => ?_⟩)
    · refine wpl_sl (n := 1) (pc' := 255) (ls' := [some (.ref 0), some (.ref 1), some (.int x2), none, some (.int x4), none, none, some (.int x7), some (.int x8), some (.int x9), some (.int x10), some (.int x11), some (.int x12), none, none, none, none, none, none, none, none]) (st' := [.int (0 : Int32)]) rfl ?_
      first | exact hm100 _ (by simp only [if_neg hc115, if_pos hc116]) | exact wpl_lle (by repeat (first | exact trivial | refine ⟨rfl, ?_⟩)) (hm100 _ (by simp only [if_neg hc115, if_pos hc116]))
    · refine wpl_sl (n := 2) (pc' := 255) (ls' := [some (.ref 0), some (.ref 1), some (.int x2), none, some (.int x4), none, none, some (.int x7), some (.int x8), some (.int x9), some (.int x10), some (.int x11), some (.int x12), none, none, none, none, none, none, none, none]) (st' := [.int (1 : Int32)]) rfl ?_
      first | exact hm100 _ (by simp only [if_neg hc115, if_neg hc116]) | exact wpl_lle (by repeat (first | exact trivial | refine ⟨rfl, ?_⟩)) (hm100 _ (by simp only [if_neg hc115, if_neg hc116]))
theorem l0_388 (N : Nat) (sg : Nat → Int32) (x4 : Int32) (x7 : Int32) (x8 : Int32) (x9 : Int32) (x10 : Int32) (x11 : Int32) (x12 : Int32) (x13 : Int32)  (Q : Int32 → Wd → Prop) (h : ((x12 < (0 : Int32)) → wplI PP QQ (some (N, sg)) 0 lm0 623 [some (.ref 0), some (.ref 1), none, none, some (.int x4), none, none, some (.int x7), some (.int x8), some (.int x9), none, some (.int x11), none, none, none, none, none, none, none, none, none] [] (W1 s) Q) ∧ (¬ (x12 < (0 : Int32)) → ((x12 < x7) → ((x7 < x13) → wplI PP QQ (some (N, sg)) 0 lm0 623 [some (.ref 0), some (.ref 1), none, none, some (.int x4), none, none, some (.int x7), some (.int x8), some (.int x9), none, some (.int x11), none, none, none, none, none, none, none, none, none] [] (W1 s) Q) ∧ (¬ (x7 < x13) → calI PP 35 14 [.ref 0, .int x12] s (fun v127 s126 => calI PP 37 14 [.ref 0, .int x12] s126 (fun v130 s129 => ((v127 < (1 : Int32)) → wplI PP QQ (some (N, sg)) 0 lm0 492 [some (.ref 0), some (.ref 1), none, none, some (.int x4), none, none, some (.int x7), some (.int x8), some (.int x9), some (.int x10), some (.int x11), some (.int x12), some (.int (x13 + (1 : Int32))), none, none, none, none, none, none, none] [] (W1 s129) Q) ∧ (¬ (v127 < (1 : Int32)) → ((v127 < (16 : Int32)) → ((v130 < (0 : Int32)) → wplI PP QQ (some (N, sg)) 0 lm0 492 [some (.ref 0), some (.ref 1), none, none, some (.int x4), none, none, some (.int x7), some (.int x8), some (.int x9), some (.int x10), some (.int x11), some (.int x12), some (.int (x13 + (1 : Int32))), none, none, none, none, none, none, none] [] (W1 s129) Q) ∧ (¬ (v130 < (0 : Int32)) → ((v130 < x4) → lalI PP QQ (some (N, sg)) 9 [.ref 0, .int v130] (W1 s129) (fun v145 w144 => ∃ s147, w144 = W1 s147 ∧ (((v127 = v145) → ((x10 < v130) → ((x9 = (0 : Int32)) → wplI PP QQ (some (N, sg)) 0 lm0 485 [some (.ref 0), some (.ref 1), none, none, some (.int x4), none, none, some (.int x7), some (.int x8), some (.int x9), none, some (.int x11), some (.int x12), some (.int (x13 + (1 : Int32))), none, some (.int v130), none, none, none, none, none] [] (W1 s147) Q) ∧ (¬ (x9 = (0 : Int32)) → ((v130 = x11) → wplI PP QQ (some (N, sg)) 0 lm0 485 [some (.ref 0), some (.ref 1), none, none, some (.int x4), none, none, some (.int x7), some (.int x8), some (.int x9), none, some (.int x11), some (.int x12), some (.int (x13 + (1 : Int32))), none, some (.int v130), none, none, none, none, none] [] (W1 s147) Q) ∧ (¬ (v130 = x11) → Q (0 : Int32) (W1 s147)))) ∧ (¬ (x10 < v130) → Q (0 : Int32) (W1 s147))) ∧ (¬ (v127 = v145) → Q (0 : Int32) (W1 s147))))) ∧ (¬ (v130 < x4) → Q (0 : Int32) (W1 s129)))) ∧ (¬ (v127 < (16 : Int32)) → wplI PP QQ (some (N, sg)) 0 lm0 492 [some (.ref 0), some (.ref 1), none, none, some (.int x4), none, none, some (.int x7), some (.int x8), some (.int x9), some (.int x10), some (.int x11), some (.int x12), some (.int (x13 + (1 : Int32))), none, none, none, none, none, none, none] [] (W1 s129) Q)))))) ∧ (¬ (x12 < x7) → wplI PP QQ (some (N, sg)) 0 lm0 623 [some (.ref 0), some (.ref 1), none, none, some (.int x4), none, none, some (.int x7), some (.int x8), some (.int x9), none, some (.int x11), none, none, none, none, none, none, none, none, none] [] (W1 s) Q))) : wplI PP QQ (some (N, sg)) 0 lm0 388 [some (.ref 0), some (.ref 1), none, none, some (.int x4), none, none, some (.int x7), some (.int x8), some (.int x9), some (.int x10), some (.int x11), some (.int x12), some (.int x13), none, none, none, none, none, none, none] [] (W1 s) Q := by
  refine wpl_sl (n := 1) (pc' := 390) (ls' := [some (.ref 0), some (.ref 1), none, none, some (.int x4), none, none, some (.int x7), some (.int x8), some (.int x9), some (.int x10), some (.int x11), some (.int x12), some (.int x13), none, none, none, none, none, none, none]) (st' := [.int x12]) rfl ?_
  refine wpl_if (a := 623) (b := 393) rfl (by decide) rfl rfl (wpl_br (p := x12 < (0 : Int32)) ⟨fun hc117 => ?_, fun hc117 => ?_⟩)
  · have h118 := h.1 hc117
    exact wpl_lle (ls := [some (.ref 0), some (.ref 1), none, none, some (.int x4), none, none, some (.int x7), some (.int x8), some (.int x9), none, some (.int x11), none, none, none, none, none, none, none, none, none]) ⟨rfl, rfl, rfl, rfl, rfl, rfl, rfl, trivial⟩ h118
  · have h119 := h.2 hc117
    refine wpl_sl (n := 2) (pc' := 397) (ls' := [some (.ref 0), some (.ref 1), none, none, some (.int x4), none, none, some (.int x7), some (.int x8), some (.int x9), some (.int x10), some (.int x11), some (.int x12), some (.int x13), none, none, none, none, none, none, none]) (st' := [.int x7, .int x12]) rfl ?_
    refine wpl_icmp (a := 623) (b := 400) rfl (by decide) rfl rfl (wpl_br (p := x12 < x7) ⟨fun hc120 => ?_, fun hc120 => ?_⟩)
    · have h121 := h119.1 hc120
      refine wpl_sl (n := 2) (pc' := 404) (ls' := [some (.ref 0), some (.ref 1), none, none, some (.int x4), none, none, some (.int x7), some (.int x8), some (.int x9), some (.int x10), some (.int x11), some (.int x12), some (.int x13), none, none, none, none, none, none, none]) (st' := [.int x7, .int x13]) rfl ?_
      refine wpl_icmp (a := 623) (b := 407) rfl (by decide) rfl rfl (wpl_br (p := x7 < x13) ⟨fun hc123 => ?_, fun hc123 => ?_⟩)
      · have h124 := h121.1 hc123
        exact wpl_lle (ls := [some (.ref 0), some (.ref 1), none, none, some (.int x4), none, none, some (.int x7), some (.int x8), some (.int x9), none, some (.int x11), none, none, none, none, none, none, none, none, none]) ⟨rfl, rfl, rfl, rfl, rfl, rfl, rfl, trivial⟩ h124
      · have h125 := h121.2 hc123
        refine wpl_sl (n := 3) (pc' := 413) (ls' := [some (.ref 0), some (.ref 1), none, none, some (.int x4), none, none, some (.int x7), some (.int x8), some (.int x9), some (.int x10), some (.int x11), some (.int x12), some (.int (x13 + (1 : Int32))), none, none, none, none, none, none, none]) (st' := [.int x12, .ref 1]) rfl ?_
        refine wpl_v1 (m' := 35) (me' := cm35) (as := [.int x12]) (r := []) rfl rfl rfl rfl rfl ⟨by decide, (by first | decide | exact Nat.le_of_ble_eq_true rfl), (by first | decide | exact Nat.le_of_ble_eq_true rfl), rfl⟩ (cal_I (calI.mono h125 fun v127 s126 h128 => ?_))
        refine wpl_sl (n := 3) (pc' := 421) (ls' := [some (.ref 0), some (.ref 1), none, none, some (.int x4), none, none, some (.int x7), some (.int x8), some (.int x9), some (.int x10), some (.int x11), some (.int x12), some (.int (x13 + (1 : Int32))), some (.int v127), none, none, none, none, none, none]) (st' := [.int x12, .ref 1]) rfl ?_
        refine wpl_v1 (m' := 37) (me' := cm37) (as := [.int x12]) (r := []) rfl rfl rfl rfl rfl ⟨by decide, (by first | decide | exact Nat.le_of_ble_eq_true rfl), (by first | decide | exact Nat.le_of_ble_eq_true rfl), rfl⟩ (cal_I (calI.mono h128 fun v130 s129 h131 => ?_))
        refine wpl_sl (n := 3) (pc' := 429) (ls' := [some (.ref 0), some (.ref 1), none, none, some (.int x4), none, none, some (.int x7), some (.int x8), some (.int x9), some (.int x10), some (.int x11), some (.int x12), some (.int (x13 + (1 : Int32))), some (.int v127), some (.int v130), none, none, none, none, none]) (st' := [.int (1 : Int32), .int v127]) rfl ?_
        refine wpl_icmp (a := 492) (b := 432) rfl (by decide) rfl rfl (wpl_br (p := v127 < (1 : Int32)) ⟨fun hc132 => ?_, fun hc132 => ?_⟩)
        · have h133 := h131.1 hc132
          exact wpl_lle (ls := [some (.ref 0), some (.ref 1), none, none, some (.int x4), none, none, some (.int x7), some (.int x8), some (.int x9), some (.int x10), some (.int x11), some (.int x12), some (.int (x13 + (1 : Int32))), none, none, none, none, none, none, none]) ⟨rfl, rfl, rfl, rfl, rfl, rfl, rfl, rfl, rfl, rfl, trivial⟩ h133
        · have h134 := h131.2 hc132
          refine wpl_sl (n := 2) (pc' := 436) (ls' := [some (.ref 0), some (.ref 1), none, none, some (.int x4), none, none, some (.int x7), some (.int x8), some (.int x9), some (.int x10), some (.int x11), some (.int x12), some (.int (x13 + (1 : Int32))), some (.int v127), some (.int v130), none, none, none, none, none]) (st' := [.int (16 : Int32), .int v127]) rfl ?_
          refine wpl_icmp (a := 492) (b := 439) rfl (by decide) rfl rfl (wpl_br (p := v127 < (16 : Int32)) ⟨fun hc135 => ?_, fun hc135 => ?_⟩)
          · have h136 := h134.1 hc135
            refine wpl_sl (n := 1) (pc' := 441) (ls' := [some (.ref 0), some (.ref 1), none, none, some (.int x4), none, none, some (.int x7), some (.int x8), some (.int x9), some (.int x10), some (.int x11), some (.int x12), some (.int (x13 + (1 : Int32))), some (.int v127), some (.int v130), none, none, none, none, none]) (st' := [.int v130]) rfl ?_
            refine wpl_if (a := 492) (b := 444) rfl (by decide) rfl rfl (wpl_br (p := v130 < (0 : Int32)) ⟨fun hc138 => ?_, fun hc138 => ?_⟩)
            · have h139 := h136.1 hc138
              exact wpl_lle (ls := [some (.ref 0), some (.ref 1), none, none, some (.int x4), none, none, some (.int x7), some (.int x8), some (.int x9), some (.int x10), some (.int x11), some (.int x12), some (.int (x13 + (1 : Int32))), none, none, none, none, none, none, none]) ⟨rfl, rfl, rfl, rfl, rfl, rfl, rfl, rfl, rfl, rfl, trivial⟩ h139
            · have h140 := h136.2 hc138
              refine wpl_sl (n := 2) (pc' := 448) (ls' := [some (.ref 0), some (.ref 1), none, none, some (.int x4), none, none, some (.int x7), some (.int x8), some (.int x9), some (.int x10), some (.int x11), some (.int x12), some (.int (x13 + (1 : Int32))), some (.int v127), some (.int v130), none, none, none, none, none]) (st' := [.int x4, .int v130]) rfl ?_
              refine wpl_icmp (a := 469) (b := 451) rfl (by decide) rfl rfl (wpl_br (p := v130 < x4) ⟨fun hc141 => ?_, fun hc141 => ?_⟩)
              · have h142 := h140.1 hc141
                refine wpl_sl (n := 3) (pc' := 456) (ls' := [some (.ref 0), some (.ref 1), none, none, some (.int x4), none, none, some (.int x7), some (.int x8), some (.int x9), some (.int x10), some (.int x11), some (.int x12), some (.int (x13 + (1 : Int32))), some (.int v127), some (.int v130), none, none, none, none, none]) (st' := [.int v130, .ref 0, .int v127]) rfl ?_
                refine wpl_stat (m' := 9) (me' := lm9) (as := [.ref 0, .int v130]) (r := [.int v127]) rfl rfl rfl rfl rfl ⟨(by first | decide | exact Nat.le_of_ble_eq_true rfl), (by first | decide | exact Nat.le_of_ble_eq_true rfl), (by first | decide | exact Nat.le_of_ble_eq_true rfl), (by first | decide | exact Nat.le_of_ble_eq_true rfl), rfl⟩ (lal_I (lalI.mono h142 fun v145 w144 hh => ?_))
                obtain ⟨s147, rfl, h146⟩ := hh
                refine wpl_icmp (a := 469) (b := 462) rfl (by decide) rfl rfl (wpl_br (p := v127 = v145) ⟨fun hc148 => ?_, fun hc148 => ?_⟩)
                · have h149 := h146.1 hc148
                  refine wpl_sl (n := 2) (pc' := 466) (ls' := [some (.ref 0), some (.ref 1), none, none, some (.int x4), none, none, some (.int x7), some (.int x8), some (.int x9), some (.int x10), some (.int x11), some (.int x12), some (.int (x13 + (1 : Int32))), some (.int v127), some (.int v130), none, none, none, none, none]) (st' := [.int x10, .int v130]) rfl ?_
                  refine wpl_icmp (a := 471) (b := 469) rfl (by decide) rfl rfl (wpl_br (p := x10 < v130) ⟨fun hc151 => ?_, fun hc151 => ?_⟩)
                  · have h152 := h149.1 hc151
                    refine wpl_sl (n := 1) (pc' := 473) (ls' := [some (.ref 0), some (.ref 1), none, none, some (.int x4), none, none, some (.int x7), some (.int x8), some (.int x9), some (.int x10), some (.int x11), some (.int x12), some (.int (x13 + (1 : Int32))), some (.int v127), some (.int v130), none, none, none, none, none]) (st' := [.int x9]) rfl ?_
                    refine wpl_if (a := 485) (b := 476) rfl (by decide) rfl rfl (wpl_br (p := x9 = (0 : Int32)) ⟨fun hc154 => ?_, fun hc154 => ?_⟩)
                    · have h155 := h152.1 hc154
                      exact wpl_lle (ls := [some (.ref 0), some (.ref 1), none, none, some (.int x4), none, none, some (.int x7), some (.int x8), some (.int x9), none, some (.int x11), some (.int x12), some (.int (x13 + (1 : Int32))), none, some (.int v130), none, none, none, none, none]) ⟨rfl, rfl, rfl, rfl, rfl, rfl, rfl, rfl, rfl, rfl, trivial⟩ h155
                    · have h156 := h152.2 hc154
                      refine wpl_sl (n := 2) (pc' := 480) (ls' := [some (.ref 0), some (.ref 1), none, none, some (.int x4), none, none, some (.int x7), some (.int x8), some (.int x9), some (.int x10), some (.int x11), some (.int x12), some (.int (x13 + (1 : Int32))), some (.int v127), some (.int v130), none, none, none, none, none]) (st' := [.int x11, .int v130]) rfl ?_
                      refine wpl_icmp (a := 485) (b := 483) rfl (by decide) rfl rfl (wpl_br (p := v130 = x11) ⟨fun hc157 => ?_, fun hc157 => ?_⟩)
                      · have h158 := h156.1 hc157
                        exact wpl_lle (ls := [some (.ref 0), some (.ref 1), none, none, some (.int x4), none, none, some (.int x7), some (.int x8), some (.int x9), none, some (.int x11), some (.int x12), some (.int (x13 + (1 : Int32))), none, some (.int v130), none, none, none, none, none]) ⟨rfl, rfl, rfl, rfl, rfl, rfl, rfl, rfl, rfl, rfl, trivial⟩ h158
                      · have h159 := h156.2 hc157
                        refine wpl_sl (n := 1) (pc' := 484) (ls' := [some (.ref 0), some (.ref 1), none, none, some (.int x4), none, none, some (.int x7), some (.int x8), some (.int x9), some (.int x10), some (.int x11), some (.int x12), some (.int (x13 + (1 : Int32))), some (.int v127), some (.int v130), none, none, none, none, none]) (st' := [.int (0 : Int32)]) rfl ?_
                        exact wpl_ret rfl rfl rfl ⟨(0 : Int32), rfl, h159⟩
                  · have h153 := h149.2 hc151
                    refine wpl_sl (n := 1) (pc' := 470) (ls' := [some (.ref 0), some (.ref 1), none, none, some (.int x4), none, none, some (.int x7), some (.int x8), some (.int x9), some (.int x10), some (.int x11), some (.int x12), some (.int (x13 + (1 : Int32))), some (.int v127), some (.int v130), none, none, none, none, none]) (st' := [.int (0 : Int32)]) rfl ?_
                    exact wpl_ret rfl rfl rfl ⟨(0 : Int32), rfl, h153⟩
                · have h150 := h146.2 hc148
                  refine wpl_sl (n := 1) (pc' := 470) (ls' := [some (.ref 0), some (.ref 1), none, none, some (.int x4), none, none, some (.int x7), some (.int x8), some (.int x9), some (.int x10), some (.int x11), some (.int x12), some (.int (x13 + (1 : Int32))), some (.int v127), some (.int v130), none, none, none, none, none]) (st' := [.int (0 : Int32)]) rfl ?_
                  exact wpl_ret rfl rfl rfl ⟨(0 : Int32), rfl, h150⟩
              · have h143 := h140.2 hc141
                refine wpl_sl (n := 1) (pc' := 470) (ls' := [some (.ref 0), some (.ref 1), none, none, some (.int x4), none, none, some (.int x7), some (.int x8), some (.int x9), some (.int x10), some (.int x11), some (.int x12), some (.int (x13 + (1 : Int32))), some (.int v127), some (.int v130), none, none, none, none, none]) (st' := [.int (0 : Int32)]) rfl ?_
                exact wpl_ret rfl rfl rfl ⟨(0 : Int32), rfl, h143⟩
          · have h137 := h134.2 hc135
            exact wpl_lle (ls := [some (.ref 0), some (.ref 1), none, none, some (.int x4), none, none, some (.int x7), some (.int x8), some (.int x9), some (.int x10), some (.int x11), some (.int x12), some (.int (x13 + (1 : Int32))), none, none, none, none, none, none, none]) ⟨rfl, rfl, rfl, rfl, rfl, rfl, rfl, rfl, rfl, rfl, trivial⟩ h137
    · have h122 := h119.2 hc120
      exact wpl_lle (ls := [some (.ref 0), some (.ref 1), none, none, some (.int x4), none, none, some (.int x7), some (.int x8), some (.int x9), none, some (.int x11), none, none, none, none, none, none, none, none, none]) ⟨rfl, rfl, rfl, rfl, rfl, rfl, rfl, trivial⟩ h122
theorem l0_284 (N : Nat) (sg : Nat → Int32) (x2 : Int32) (x4 : Int32) (x7 : Int32) (x8 : Int32) (x9 : Int32) (x10 : Int32) (x12 : Int32) (x13 : Int32)  (Q : Int32 → Wd → Prop) (h : wplI PP QQ (some (N, sg)) 0 lm0 290 [some (.ref 0), some (.ref 1), some (.int x2), none, some (.int x4), none, none, some (.int x7), some (.int x8), some (.int x9), some (.int x10), none, some (.int x12), some (.int x13), some (.int (0 : Int32)), some (.int (0 : Int32)), none, none, none, none, none] [] (W1 s) Q) : wplI PP QQ (some (N, sg)) 0 lm0 284 [some (.ref 0), some (.ref 1), some (.int x2), none, some (.int x4), none, none, some (.int x7), some (.int x8), some (.int x9), some (.int x10), none, some (.int x12), some (.int x13), none, none, none, none, none, none, none] [] (W1 s) Q := by
  refine wpl_sl (n := 4) (pc' := 290) (ls' := [some (.ref 0), some (.ref 1), some (.int x2), none, some (.int x4), none, none, some (.int x7), some (.int x8), some (.int x9), some (.int x10), none, some (.int x12), some (.int x13), some (.int (0 : Int32)), some (.int (0 : Int32)), none, none, none, none, none]) (st' := []) rfl ?_
  exact h
theorem l0_623 (N : Nat) (sg : Nat → Int32) (x4 : Int32) (x7 : Int32) (x8 : Int32) (x9 : Int32) (x11 : Int32)  (Q : Int32 → Wd → Prop) (h : ((x9 = (0 : Int32)) → wplI PP QQ (some (N, sg)) 0 lm0 637 [some (.ref 0), some (.ref 1), none, none, some (.int x4), none, none, some (.int x7), some (.int x8), none, none, none, none, none, none, none, none, none, none, none, none] [] (W1 s) Q) ∧ (¬ (x9 = (0 : Int32)) → ((x11 = x4) → wplI PP QQ (some (N, sg)) 0 lm0 637 [some (.ref 0), some (.ref 1), none, none, some (.int x4), none, none, some (.int x7), some (.int x8), none, none, none, none, none, none, none, none, none, none, none, none] [] (W1 s) Q) ∧ (¬ (x11 = x4) → Q (0 : Int32) (W1 s)))) : wplI PP QQ (some (N, sg)) 0 lm0 623 [some (.ref 0), some (.ref 1), none, none, some (.int x4), none, none, some (.int x7), some (.int x8), some (.int x9), none, some (.int x11), none, none, none, none, none, none, none, none, none] [] (W1 s) Q := by
  refine wpl_sl (n := 1) (pc' := 625) (ls' := [some (.ref 0), some (.ref 1), none, none, some (.int x4), none, none, some (.int x7), some (.int x8), some (.int x9), none, some (.int x11), none, none, none, none, none, none, none, none, none]) (st' := [.int x9]) rfl ?_
  refine wpl_if (a := 637) (b := 628) rfl (by decide) rfl rfl (wpl_br (p := x9 = (0 : Int32)) ⟨fun hc160 => ?_, fun hc160 => ?_⟩)
  · have h161 := h.1 hc160
    exact wpl_lle (ls := [some (.ref 0), some (.ref 1), none, none, some (.int x4), none, none, some (.int x7), some (.int x8), none, none, none, none, none, none, none, none, none, none, none, none]) ⟨rfl, rfl, rfl, rfl, rfl, trivial⟩ h161
  · have h162 := h.2 hc160
    refine wpl_sl (n := 2) (pc' := 632) (ls' := [some (.ref 0), some (.ref 1), none, none, some (.int x4), none, none, some (.int x7), some (.int x8), some (.int x9), none, some (.int x11), none, none, none, none, none, none, none, none, none]) (st' := [.int x4, .int x11]) rfl ?_
    refine wpl_icmp (a := 637) (b := 635) rfl (by decide) rfl rfl (wpl_br (p := x11 = x4) ⟨fun hc163 => ?_, fun hc163 => ?_⟩)
    · have h164 := h162.1 hc163
      exact wpl_lle (ls := [some (.ref 0), some (.ref 1), none, none, some (.int x4), none, none, some (.int x7), some (.int x8), none, none, none, none, none, none, none, none, none, none, none, none]) ⟨rfl, rfl, rfl, rfl, rfl, trivial⟩ h164
    · have h165 := h162.2 hc163
      refine wpl_sl (n := 1) (pc' := 636) (ls' := [some (.ref 0), some (.ref 1), none, none, some (.int x4), none, none, some (.int x7), some (.int x8), some (.int x9), none, some (.int x11), none, none, none, none, none, none, none, none, none]) (st' := [.int (0 : Int32)]) rfl ?_
      exact wpl_ret rfl rfl rfl ⟨(0 : Int32), rfl, h165⟩
theorem l0_492 (N : Nat) (sg : Nat → Int32) (x4 : Int32) (x7 : Int32) (x8 : Int32) (x9 : Int32) (x10 : Int32) (x11 : Int32) (x12 : Int32) (x13 : Int32)  (Q : Int32 → Wd → Prop) (h : wplI PP QQ (some (N, sg)) 0 lm0 498 [some (.ref 0), some (.ref 1), none, none, some (.int x4), none, none, some (.int x7), some (.int x8), some (.int x9), some (.int x10), some (.int x11), some (.int x12), some (.int x13), none, none, some (.int (-1 : Int32)), some (.int (0 : Int32)), none, none, none] [] (W1 s) Q) : wplI PP QQ (some (N, sg)) 0 lm0 492 [some (.ref 0), some (.ref 1), none, none, some (.int x4), none, none, some (.int x7), some (.int x8), some (.int x9), some (.int x10), some (.int x11), some (.int x12), some (.int x13), none, none, none, none, none, none, none] [] (W1 s) Q := by
  refine wpl_sl (n := 4) (pc' := 498) (ls' := [some (.ref 0), some (.ref 1), none, none, some (.int x4), none, none, some (.int x7), some (.int x8), some (.int x9), some (.int x10), some (.int x11), some (.int x12), some (.int x13), none, none, some (.int (-1 : Int32)), some (.int (0 : Int32)), none, none, none]) (st' := []) rfl ?_
  exact h
theorem l0_485 (N : Nat) (sg : Nat → Int32) (x4 : Int32) (x7 : Int32) (x8 : Int32) (x9 : Int32) (x11 : Int32) (x12 : Int32) (x13 : Int32) (x15 : Int32)  (Q : Int32 → Wd → Prop) (h : wplI PP QQ (some (N, sg)) 0 lm0 492 [some (.ref 0), some (.ref 1), none, none, some (.int x4), none, none, some (.int x7), some (.int x8), some (.int x9), some (.int x15), some (.int (x11 + (1 : Int32))), some (.int x12), some (.int x13), none, none, none, none, none, none, none] [] (W1 s) Q) : wplI PP QQ (some (N, sg)) 0 lm0 485 [some (.ref 0), some (.ref 1), none, none, some (.int x4), none, none, some (.int x7), some (.int x8), some (.int x9), none, some (.int x11), some (.int x12), some (.int x13), none, some (.int x15), none, none, none, none, none] [] (W1 s) Q := by
  refine wpl_sl (n := 3) (pc' := 492) (ls' := [some (.ref 0), some (.ref 1), none, none, some (.int x4), none, none, some (.int x7), some (.int x8), some (.int x9), some (.int x15), some (.int (x11 + (1 : Int32))), some (.int x12), some (.int x13), none, some (.int x15), none, none, none, none, none]) (st' := []) rfl ?_
  exact wpl_lle (ls := [some (.ref 0), some (.ref 1), none, none, some (.int x4), none, none, some (.int x7), some (.int x8), some (.int x9), some (.int x15), some (.int (x11 + (1 : Int32))), some (.int x12), some (.int x13), none, none, none, none, none, none, none]) ⟨rfl, rfl, rfl, rfl, rfl, rfl, rfl, rfl, rfl, rfl, trivial⟩ h
theorem l0_290 (N : Nat) (sg : Nat → Int32) (x2 : Int32) (x4 : Int32) (x7 : Int32) (x8 : Int32) (x9 : Int32) (x10 : Int32) (x12 : Int32) (x13 : Int32) (x14 : Int32) (x15 : Int32)  (Q : Int32 → Wd → Prop) (h : ((x15 < x7) → calI PP 36 14 [.ref 0, .int x15] s (fun v170 s169 => ((v170 = x10) → ((x13 = (0 : Int32)) → Q (0 : Int32) (W1 s169)) ∧ (¬ (x13 = (0 : Int32)) → lalI PP QQ (some (N, sg)) 7 [.ref 0, .int x12] (W1 s169) (fun v179 w178 => ∃ s181, w178 = W1 s181 ∧ (((x14 < v179) → calI PP 35 14 [.ref 0, .int x15] s181 (fun v186 s185 => lalI PP QQ (some (N, sg)) 8 [.ref 0, .int x12, .int x14] (W1 s185) (fun v189 w188 => ∃ s191, w188 = W1 s191 ∧ (((v186 = v189) → wplI PP QQ (some (N, sg)) 0 lm0 346 [some (.ref 0), some (.ref 1), some (.int x2), none, some (.int x4), none, none, some (.int x7), some (.int x8), some (.int x9), some (.int x10), none, some (.int x12), some (.int x13), some (.int (x14 + (1 : Int32))), some (.int x15), none, none, none, none, none] [] (W1 s191) Q) ∧ (¬ (v186 = v189) → Q (0 : Int32) (W1 s191)))))) ∧ (¬ (x14 < v179) → Q (0 : Int32) (W1 s181)))))) ∧ (¬ (v170 = x10) → wplI PP QQ (some (N, sg)) 0 lm0 346 [some (.ref 0), some (.ref 1), some (.int x2), none, some (.int x4), none, none, some (.int x7), some (.int x8), some (.int x9), some (.int x10), none, some (.int x12), some (.int x13), some (.int x14), some (.int x15), none, none, none, none, none] [] (W1 s169) Q))) ∧ (¬ (x15 < x7) → ((x13 = (0 : Int32)) → wplI PP QQ (some (N, sg)) 0 lm0 370 [some (.ref 0), some (.ref 1), some (.int x2), none, some (.int x4), none, none, some (.int x7), some (.int x8), some (.int x9), some (.int x10), none, none, none, none, none, none, none, none, none, none] [] (W1 s) Q) ∧ (¬ (x13 = (0 : Int32)) → lalI PP QQ (some (N, sg)) 7 [.ref 0, .int x12] (W1 s) (fun v199 w198 => ∃ s201, w198 = W1 s201 ∧ (((x14 = v199) → wplI PP QQ (some (N, sg)) 0 lm0 370 [some (.ref 0), some (.ref 1), some (.int x2), none, some (.int x4), none, none, some (.int x7), some (.int x8), some (.int x9), some (.int x10), none, none, none, none, none, none, none, none, none, none] [] (W1 s201) Q) ∧ (¬ (x14 = v199) → Q (0 : Int32) (W1 s201))))))) : wplI PP QQ (some (N, sg)) 0 lm0 290 [some (.ref 0), some (.ref 1), some (.int x2), none, some (.int x4), none, none, some (.int x7), some (.int x8), some (.int x9), some (.int x10), none, some (.int x12), some (.int x13), some (.int x14), some (.int x15), none, none, none, none, none] [] (W1 s) Q := by
  refine wpl_sl (n := 2) (pc' := 294) (ls' := [some (.ref 0), some (.ref 1), some (.int x2), none, some (.int x4), none, none, some (.int x7), some (.int x8), some (.int x9), some (.int x10), none, some (.int x12), some (.int x13), some (.int x14), some (.int x15), none, none, none, none, none]) (st' := [.int x7, .int x15]) rfl ?_
  refine wpl_icmp (a := 352) (b := 297) rfl (by decide) rfl rfl (wpl_br (p := x15 < x7) ⟨fun hc166 => ?_, fun hc166 => ?_⟩)
  · have h167 := h.1 hc166
    refine wpl_sl (n := 2) (pc' := 300) (ls' := [some (.ref 0), some (.ref 1), some (.int x2), none, some (.int x4), none, none, some (.int x7), some (.int x8), some (.int x9), some (.int x10), none, some (.int x12), some (.int x13), some (.int x14), some (.int x15), none, none, none, none, none]) (st' := [.int x15, .ref 1]) rfl ?_
    refine wpl_v1 (m' := 36) (me' := cm36) (as := [.int x15]) (r := []) rfl rfl rfl rfl rfl ⟨by decide, (by first | decide | exact Nat.le_of_ble_eq_true rfl), (by first | decide | exact Nat.le_of_ble_eq_true rfl), rfl⟩ (cal_I (calI.mono h167 fun v170 s169 h171 => ?_))
    refine wpl_sl (n := 1) (pc' := 305) (ls' := [some (.ref 0), some (.ref 1), some (.int x2), none, some (.int x4), none, none, some (.int x7), some (.int x8), some (.int x9), some (.int x10), none, some (.int x12), some (.int x13), some (.int x14), some (.int x15), none, none, none, none, none]) (st' := [.int x10, .int v170]) rfl ?_
    refine wpl_icmp (a := 346) (b := 308) rfl (by decide) rfl rfl (wpl_br (p := v170 = x10) ⟨fun hc172 => ?_, fun hc172 => ?_⟩)
    · have h173 := h171.1 hc172
      refine wpl_sl (n := 1) (pc' := 310) (ls' := [some (.ref 0), some (.ref 1), some (.int x2), none, some (.int x4), none, none, some (.int x7), some (.int x8), some (.int x9), some (.int x10), none, some (.int x12), some (.int x13), some (.int x14), some (.int x15), none, none, none, none, none]) (st' := [.int x13]) rfl ?_
      refine wpl_if (a := 341) (b := 313) rfl (by decide) rfl rfl (wpl_br (p := x13 = (0 : Int32)) ⟨fun hc175 => ?_, fun hc175 => ?_⟩)
      · have h176 := h173.1 hc175
        refine wpl_sl (n := 1) (pc' := 342) (ls' := [some (.ref 0), some (.ref 1), some (.int x2), none, some (.int x4), none, none, some (.int x7), some (.int x8), some (.int x9), some (.int x10), none, some (.int x12), some (.int x13), some (.int x14), some (.int x15), none, none, none, none, none]) (st' := [.int (0 : Int32)]) rfl ?_
        exact wpl_ret rfl rfl rfl ⟨(0 : Int32), rfl, h176⟩
      · have h177 := h173.2 hc175
        refine wpl_sl (n := 3) (pc' := 318) (ls' := [some (.ref 0), some (.ref 1), some (.int x2), none, some (.int x4), none, none, some (.int x7), some (.int x8), some (.int x9), some (.int x10), none, some (.int x12), some (.int x13), some (.int x14), some (.int x15), none, none, none, none, none]) (st' := [.int x12, .ref 0, .int x14]) rfl ?_
        refine wpl_stat (m' := 7) (me' := lm7) (as := [.ref 0, .int x12]) (r := [.int x14]) rfl rfl rfl rfl rfl ⟨(by first | decide | exact Nat.le_of_ble_eq_true rfl), (by first | decide | exact Nat.le_of_ble_eq_true rfl), (by first | decide | exact Nat.le_of_ble_eq_true rfl), (by first | decide | exact Nat.le_of_ble_eq_true rfl), rfl⟩ (lal_I (lalI.mono h177 fun v179 w178 hh => ?_))
        obtain ⟨s181, rfl, h180⟩ := hh
        refine wpl_icmp (a := 341) (b := 324) rfl (by decide) rfl rfl (wpl_br (p := x14 < v179) ⟨fun hc182 => ?_, fun hc182 => ?_⟩)
        · have h183 := h180.1 hc182
          refine wpl_sl (n := 2) (pc' := 327) (ls' := [some (.ref 0), some (.ref 1), some (.int x2), none, some (.int x4), none, none, some (.int x7), some (.int x8), some (.int x9), some (.int x10), none, some (.int x12), some (.int x13), some (.int x14), some (.int x15), none, none, none, none, none]) (st' := [.int x15, .ref 1]) rfl ?_
          refine wpl_v1 (m' := 35) (me' := cm35) (as := [.int x15]) (r := []) rfl rfl rfl rfl rfl ⟨by decide, (by first | decide | exact Nat.le_of_ble_eq_true rfl), (by first | decide | exact Nat.le_of_ble_eq_true rfl), rfl⟩ (cal_I (calI.mono h183 fun v186 s185 h187 => ?_))
          refine wpl_sl (n := 3) (pc' := 335) (ls' := [some (.ref 0), some (.ref 1), some (.int x2), none, some (.int x4), none, none, some (.int x7), some (.int x8), some (.int x9), some (.int x10), none, some (.int x12), some (.int x13), some (.int x14), some (.int x15), none, none, none, none, none]) (st' := [.int x14, .int x12, .ref 0, .int v186]) rfl ?_
          refine wpl_stat (m' := 8) (me' := lm8) (as := [.ref 0, .int x12, .int x14]) (r := [.int v186]) rfl rfl rfl rfl rfl ⟨(by first | decide | exact Nat.le_of_ble_eq_true rfl), (by first | decide | exact Nat.le_of_ble_eq_true rfl), (by first | decide | exact Nat.le_of_ble_eq_true rfl), (by first | decide | exact Nat.le_of_ble_eq_true rfl), rfl⟩ (lal_I (lalI.mono h187 fun v189 w188 hh => ?_))
          obtain ⟨s191, rfl, h190⟩ := hh
          refine wpl_icmp (a := 343) (b := 341) rfl (by decide) rfl rfl (wpl_br (p := v186 = v189) ⟨fun hc192 => ?_, fun hc192 => ?_⟩)
          · have h193 := h190.1 hc192
            refine wpl_sl (n := 1) (pc' := 346) (ls' := [some (.ref 0), some (.ref 1), some (.int x2), none, some (.int x4), none, none, some (.int x7), some (.int x8), some (.int x9), some (.int x10), none, some (.int x12), some (.int x13), some (.int (x14 + (1 : Int32))), some (.int x15), none, none, none, none, none]) (st' := []) rfl ?_
            exact h193
          · have h194 := h190.2 hc192
            refine wpl_sl (n := 1) (pc' := 342) (ls' := [some (.ref 0), some (.ref 1), some (.int x2), none, some (.int x4), none, none, some (.int x7), some (.int x8), some (.int x9), some (.int x10), none, some (.int x12), some (.int x13), some (.int x14), some (.int x15), none, none, none, none, none]) (st' := [.int (0 : Int32)]) rfl ?_
            exact wpl_ret rfl rfl rfl ⟨(0 : Int32), rfl, h194⟩
        · have h184 := h180.2 hc182
          refine wpl_sl (n := 1) (pc' := 342) (ls' := [some (.ref 0), some (.ref 1), some (.int x2), none, some (.int x4), none, none, some (.int x7), some (.int x8), some (.int x9), some (.int x10), none, some (.int x12), some (.int x13), some (.int x14), some (.int x15), none, none, none, none, none]) (st' := [.int (0 : Int32)]) rfl ?_
          exact wpl_ret rfl rfl rfl ⟨(0 : Int32), rfl, h184⟩
    · have h174 := h171.2 hc172
      exact h174
  · have h168 := h.2 hc166
    refine wpl_sl (n := 1) (pc' := 354) (ls' := [some (.ref 0), some (.ref 1), some (.int x2), none, some (.int x4), none, none, some (.int x7), some (.int x8), some (.int x9), some (.int x10), none, some (.int x12), some (.int x13), some (.int x14), some (.int x15), none, none, none, none, none]) (st' := [.int x13]) rfl ?_
    refine wpl_if (a := 370) (b := 357) rfl (by decide) rfl rfl (wpl_br (p := x13 = (0 : Int32)) ⟨fun hc195 => ?_, fun hc195 => ?_⟩)
    · have h196 := h168.1 hc195
      exact wpl_lle (ls := [some (.ref 0), some (.ref 1), some (.int x2), none, some (.int x4), none, none, some (.int x7), some (.int x8), some (.int x9), some (.int x10), none, none, none, none, none, none, none, none, none, none]) ⟨rfl, rfl, rfl, rfl, rfl, rfl, rfl, rfl, trivial⟩ h196
    · have h197 := h168.2 hc195
      refine wpl_sl (n := 3) (pc' := 362) (ls' := [some (.ref 0), some (.ref 1), some (.int x2), none, some (.int x4), none, none, some (.int x7), some (.int x8), some (.int x9), some (.int x10), none, some (.int x12), some (.int x13), some (.int x14), some (.int x15), none, none, none, none, none]) (st' := [.int x12, .ref 0, .int x14]) rfl ?_
      refine wpl_stat (m' := 7) (me' := lm7) (as := [.ref 0, .int x12]) (r := [.int x14]) rfl rfl rfl rfl rfl ⟨(by first | decide | exact Nat.le_of_ble_eq_true rfl), (by first | decide | exact Nat.le_of_ble_eq_true rfl), (by first | decide | exact Nat.le_of_ble_eq_true rfl), (by first | decide | exact Nat.le_of_ble_eq_true rfl), rfl⟩ (lal_I (lalI.mono h197 fun v199 w198 hh => ?_))
      obtain ⟨s201, rfl, h200⟩ := hh
      refine wpl_icmp (a := 370) (b := 368) rfl (by decide) rfl rfl (wpl_br (p := x14 = v199) ⟨fun hc202 => ?_, fun hc202 => ?_⟩)
      · have h203 := h200.1 hc202
        exact wpl_lle (ls := [some (.ref 0), some (.ref 1), some (.int x2), none, some (.int x4), none, none, some (.int x7), some (.int x8), some (.int x9), some (.int x10), none, none, none, none, none, none, none, none, none, none]) ⟨rfl, rfl, rfl, rfl, rfl, rfl, rfl, rfl, trivial⟩ h203
      · have h204 := h200.2 hc202
        refine wpl_sl (n := 1) (pc' := 369) (ls' := [some (.ref 0), some (.ref 1), some (.int x2), none, some (.int x4), none, none, some (.int x7), some (.int x8), some (.int x9), some (.int x10), none, some (.int x12), some (.int x13), some (.int x14), some (.int x15), none, none, none, none, none]) (st' := [.int (0 : Int32)]) rfl ?_
        exact wpl_ret rfl rfl rfl ⟨(0 : Int32), rfl, h204⟩
theorem l0_637 (N : Nat) (sg : Nat → Int32) (x4 : Int32) (x7 : Int32) (x8 : Int32)  (Q : Int32 → Wd → Prop) (h : (((64 : Int32) < x8) → Q (1 : Int32) (W1 s)) ∧ (¬ ((64 : Int32) < x8) → wplI PP QQ (some (N, sg)) 0 lm0 647 [some (.ref 0), some (.ref 1), none, none, some (.int x4), none, none, some (.int x7), some (.int x8), none, none, none, none, none, some (.int (0 : Int32)), none, none, none, none, none, none] [] (W1 s) Q)) : wplI PP QQ (some (N, sg)) 0 lm0 637 [some (.ref 0), some (.ref 1), none, none, some (.int x4), none, none, some (.int x7), some (.int x8), none, none, none, none, none, none, none, none, none, none, none, none] [] (W1 s) Q := by
  refine wpl_sl (n := 2) (pc' := 641) (ls' := [some (.ref 0), some (.ref 1), none, none, some (.int x4), none, none, some (.int x7), some (.int x8), none, none, none, none, none, none, none, none, none, none, none, none]) (st' := [.int (64 : Int32), .int x8]) rfl ?_
  refine wpl_icmp (a := 789) (b := 644) rfl (by decide) rfl rfl (wpl_br (p := (64 : Int32) < x8) ⟨fun hc205 => ?_, fun hc205 => ?_⟩)
  · have h206 := h.1 hc205
    refine wpl_sl (n := 1) (pc' := 790) (ls' := [some (.ref 0), some (.ref 1), none, none, some (.int x4), none, none, some (.int x7), some (.int x8), none, none, none, none, none, none, none, none, none, none, none, none]) (st' := [.int (1 : Int32)]) rfl ?_
    exact wpl_ret rfl rfl rfl ⟨(1 : Int32), rfl, h206⟩
  · have h207 := h.2 hc205
    refine wpl_sl (n := 2) (pc' := 647) (ls' := [some (.ref 0), some (.ref 1), none, none, some (.int x4), none, none, some (.int x7), some (.int x8), none, none, none, none, none, some (.int (0 : Int32)), none, none, none, none, none, none]) (st' := []) rfl ?_
    exact h207
theorem l0_498 (N : Nat) (sg : Nat → Int32) (x4 : Int32) (x7 : Int32) (x8 : Int32) (x9 : Int32) (x10 : Int32) (x11 : Int32) (x12 : Int32) (x13 : Int32) (x16 : Int32) (x17 : Int32)  (Q : Int32 → Wd → Prop) (h : ((x17 < x7) → calI PP 36 14 [.ref 0, .int x17] s (fun v212 s211 => ((v212 = x12) → wplI PP QQ (some (N, sg)) 0 lm0 529 [some (.ref 0), some (.ref 1), none, none, some (.int x4), none, none, some (.int x7), some (.int x8), some (.int x9), some (.int x10), some (.int x11), some (.int x12), some (.int x13), none, none, some (.int x17), none, none, none, none] [] (W1 s211) Q) ∧ (¬ (v212 = x12) → wplI PP QQ (some (N, sg)) 0 lm0 498 [some (.ref 0), some (.ref 1), none, none, some (.int x4), none, none, some (.int x7), some (.int x8), some (.int x9), some (.int x10), some (.int x11), some (.int x12), some (.int x13), none, none, some (.int x16), some (.int (x17 + (1 : Int32))), none, none, none] [] (W1 s211) Q))) ∧ (¬ (x17 < x7) → wplI PP QQ (some (N, sg)) 0 lm0 529 [some (.ref 0), some (.ref 1), none, none, some (.int x4), none, none, some (.int x7), some (.int x8), some (.int x9), some (.int x10), some (.int x11), some (.int x12), some (.int x13), none, none, some (.int x16), none, none, none, none] [] (W1 s) Q)) : wplI PP QQ (some (N, sg)) 0 lm0 498 [some (.ref 0), some (.ref 1), none, none, some (.int x4), none, none, some (.int x7), some (.int x8), some (.int x9), some (.int x10), some (.int x11), some (.int x12), some (.int x13), none, none, some (.int x16), some (.int x17), none, none, none] [] (W1 s) Q := by
  refine wpl_sl (n := 2) (pc' := 502) (ls' := [some (.ref 0), some (.ref 1), none, none, some (.int x4), none, none, some (.int x7), some (.int x8), some (.int x9), some (.int x10), some (.int x11), some (.int x12), some (.int x13), none, none, some (.int x16), some (.int x17), none, none, none]) (st' := [.int x7, .int x17]) rfl ?_
  refine wpl_icmp (a := 529) (b := 505) rfl (by decide) rfl rfl (wpl_br (p := x17 < x7) ⟨fun hc208 => ?_, fun hc208 => ?_⟩)
  · have h209 := h.1 hc208
    refine wpl_sl (n := 2) (pc' := 508) (ls' := [some (.ref 0), some (.ref 1), none, none, some (.int x4), none, none, some (.int x7), some (.int x8), some (.int x9), some (.int x10), some (.int x11), some (.int x12), some (.int x13), none, none, some (.int x16), some (.int x17), none, none, none]) (st' := [.int x17, .ref 1]) rfl ?_
    refine wpl_v1 (m' := 36) (me' := cm36) (as := [.int x17]) (r := []) rfl rfl rfl rfl rfl ⟨by decide, (by first | decide | exact Nat.le_of_ble_eq_true rfl), (by first | decide | exact Nat.le_of_ble_eq_true rfl), rfl⟩ (cal_I (calI.mono h209 fun v212 s211 h213 => ?_))
    refine wpl_sl (n := 1) (pc' := 513) (ls' := [some (.ref 0), some (.ref 1), none, none, some (.int x4), none, none, some (.int x7), some (.int x8), some (.int x9), some (.int x10), some (.int x11), some (.int x12), some (.int x13), none, none, some (.int x16), some (.int x17), none, none, none]) (st' := [.int x12, .int v212]) rfl ?_
    refine wpl_icmp (a := 523) (b := 516) rfl (by decide) rfl rfl (wpl_br (p := v212 = x12) ⟨fun hc214 => ?_, fun hc214 => ?_⟩)
    · have h215 := h213.1 hc214
      refine wpl_sl (n := 3) (pc' := 529) (ls' := [some (.ref 0), some (.ref 1), none, none, some (.int x4), none, none, some (.int x7), some (.int x8), some (.int x9), some (.int x10), some (.int x11), some (.int x12), some (.int x13), none, none, some (.int x17), some (.int x17), none, none, none]) (st' := []) rfl ?_
      exact wpl_lle (ls := [some (.ref 0), some (.ref 1), none, none, some (.int x4), none, none, some (.int x7), some (.int x8), some (.int x9), some (.int x10), some (.int x11), some (.int x12), some (.int x13), none, none, some (.int x17), none, none, none, none]) ⟨rfl, rfl, rfl, rfl, rfl, rfl, rfl, rfl, rfl, rfl, rfl, trivial⟩ h215
    · have h216 := h213.2 hc214
      refine wpl_sl (n := 2) (pc' := 498) (ls' := [some (.ref 0), some (.ref 1), none, none, some (.int x4), none, none, some (.int x7), some (.int x8), some (.int x9), some (.int x10), some (.int x11), some (.int x12), some (.int x13), none, none, some (.int x16), some (.int (x17 + (1 : Int32))), none, none, none]) (st' := []) rfl ?_
      exact h216
  · have h210 := h.2 hc208
    exact wpl_lle (ls := [some (.ref 0), some (.ref 1), none, none, some (.int x4), none, none, some (.int x7), some (.int x8), some (.int x9), some (.int x10), some (.int x11), some (.int x12), some (.int x13), none, none, some (.int x16), none, none, none, none]) ⟨rfl, rfl, rfl, rfl, rfl, rfl, rfl, rfl, rfl, rfl, rfl, trivial⟩ h210
theorem l0_346 (N : Nat) (sg : Nat → Int32) (x2 : Int32) (x4 : Int32) (x7 : Int32) (x8 : Int32) (x9 : Int32) (x10 : Int32) (x12 : Int32) (x13 : Int32) (x14 : Int32) (x15 : Int32)  (Q : Int32 → Wd → Prop) (h : wplI PP QQ (some (N, sg)) 0 lm0 290 [some (.ref 0), some (.ref 1), some (.int x2), none, some (.int x4), none, none, some (.int x7), some (.int x8), some (.int x9), some (.int x10), none, some (.int x12), some (.int x13), some (.int x14), some (.int (x15 + (1 : Int32))), none, none, none, none, none] [] (W1 s) Q) : wplI PP QQ (some (N, sg)) 0 lm0 346 [some (.ref 0), some (.ref 1), some (.int x2), none, some (.int x4), none, none, some (.int x7), some (.int x8), some (.int x9), some (.int x10), none, some (.int x12), some (.int x13), some (.int x14), some (.int x15), none, none, none, none, none] [] (W1 s) Q := by
  refine wpl_sl (n := 2) (pc' := 290) (ls' := [some (.ref 0), some (.ref 1), some (.int x2), none, some (.int x4), none, none, some (.int x7), some (.int x8), some (.int x9), some (.int x10), none, some (.int x12), some (.int x13), some (.int x14), some (.int (x15 + (1 : Int32))), none, none, none, none, none]) (st' := []) rfl ?_
  exact h
theorem l0_370 (N : Nat) (sg : Nat → Int32) (x2 : Int32) (x4 : Int32) (x7 : Int32) (x8 : Int32) (x9 : Int32) (x10 : Int32)  (Q : Int32 → Wd → Prop) (h : wplI PP QQ (some (N, sg)) 0 lm0 202 [some (.ref 0), some (.ref 1), some (.int x2), none, some (.int x4), none, none, some (.int x7), some (.int x8), some (.int x9), some (.int (x10 + (1 : Int32))), none, none, none, none, none, none, none, none, none, none] [] (W1 s) Q) : wplI PP QQ (some (N, sg)) 0 lm0 370 [some (.ref 0), some (.ref 1), some (.int x2), none, some (.int x4), none, none, some (.int x7), some (.int x8), some (.int x9), some (.int x10), none, none, none, none, none, none, none, none, none, none] [] (W1 s) Q := by
  refine wpl_sl (n := 2) (pc' := 202) (ls' := [some (.ref 0), some (.ref 1), some (.int x2), none, some (.int x4), none, none, some (.int x7), some (.int x8), some (.int x9), some (.int (x10 + (1 : Int32))), none, none, none, none, none, none, none, none, none, none]) (st' := []) rfl ?_
  exact h
theorem l0_647 (N : Nat) (sg : Nat → Int32) (x4 : Int32) (x7 : Int32) (x8 : Int32) (x14 : Int32)  (Q : Int32 → Wd → Prop) (h : ((x14 < x4) → wplI PP QQ (some (N, sg)) 0 lm0 660 [some (.ref 0), some (.ref 1), none, none, some (.int x4), none, none, some (.int x7), some (.int x8), none, none, none, none, none, some (.int x14), some (.int (0 : Int32)), some (.int (0 : Int32)), none, none, none, none] [] (W1 s) Q) ∧ (¬ (x14 < x4) → Q (1 : Int32) (W1 s))) : wplI PP QQ (some (N, sg)) 0 lm0 647 [some (.ref 0), some (.ref 1), none, none, some (.int x4), none, none, some (.int x7), some (.int x8), none, none, none, none, none, some (.int x14), none, none, none, none, none, none] [] (W1 s) Q := by
  refine wpl_sl (n := 2) (pc' := 651) (ls' := [some (.ref 0), some (.ref 1), none, none, some (.int x4), none, none, some (.int x7), some (.int x8), none, none, none, none, none, some (.int x14), none, none, none, none, none, none]) (st' := [.int x4, .int x14]) rfl ?_
  refine wpl_icmp (a := 789) (b := 654) rfl (by decide) rfl rfl (wpl_br (p := x14 < x4) ⟨fun hc217 => ?_, fun hc217 => ?_⟩)
  · have h218 := h.1 hc217
    refine wpl_sl (n := 4) (pc' := 660) (ls' := [some (.ref 0), some (.ref 1), none, none, some (.int x4), none, none, some (.int x7), some (.int x8), none, none, none, none, none, some (.int x14), some (.int (0 : Int32)), some (.int (0 : Int32)), none, none, none, none]) (st' := []) rfl ?_
    exact h218
  · have h219 := h.2 hc217
    refine wpl_sl (n := 1) (pc' := 790) (ls' := [some (.ref 0), some (.ref 1), none, none, some (.int x4), none, none, some (.int x7), some (.int x8), none, none, none, none, none, some (.int x14), none, none, none, none, none, none]) (st' := [.int (1 : Int32)]) rfl ?_
    exact wpl_ret rfl rfl rfl ⟨(1 : Int32), rfl, h219⟩
theorem l0_529 (N : Nat) (sg : Nat → Int32) (x4 : Int32) (x7 : Int32) (x8 : Int32) (x9 : Int32) (x10 : Int32) (x11 : Int32) (x12 : Int32) (x13 : Int32) (x16 : Int32)  (Q : Int32 → Wd → Prop) (h : wplI PP QQ (some (N, sg)) 0 lm0 536 [some (.ref 0), some (.ref 1), none, none, some (.int x4), none, none, some (.int x7), some (.int x8), some (.int x9), some (.int x10), some (.int x11), none, some (.int x13), none, none, some (.int x16), some (.int x12), some (.int (0 : Int32)), none, none] [] (W1 s) Q) : wplI PP QQ (some (N, sg)) 0 lm0 529 [some (.ref 0), some (.ref 1), none, none, some (.int x4), none, none, some (.int x7), some (.int x8), some (.int x9), some (.int x10), some (.int x11), some (.int x12), some (.int x13), none, none, some (.int x16), none, none, none, none] [] (W1 s) Q := by
  refine wpl_sl (n := 4) (pc' := 536) (ls' := [some (.ref 0), some (.ref 1), none, none, some (.int x4), none, none, some (.int x7), some (.int x8), some (.int x9), some (.int x10), some (.int x11), some (.int x12), some (.int x13), none, none, some (.int x16), some (.int x12), some (.int (0 : Int32)), none, none]) (st' := []) rfl ?_
  exact wpl_lle (ls := [some (.ref 0), some (.ref 1), none, none, some (.int x4), none, none, some (.int x7), some (.int x8), some (.int x9), some (.int x10), some (.int x11), none, some (.int x13), none, none, some (.int x16), some (.int x12), some (.int (0 : Int32)), none, none]) ⟨rfl, rfl, rfl, rfl, rfl, rfl, rfl, rfl, rfl, rfl, rfl, rfl, trivial⟩ h
theorem l0_660 (N : Nat) (sg : Nat → Int32) (x4 : Int32) (x7 : Int32) (x8 : Int32) (x14 : Int32) (x15 : Int32) (x16 : Int32)  (Q : Int32 → Wd → Prop) (h : ((x16 < x7) → calI PP 35 14 [.ref 0, .int x16] s (fun v224 s223 => ((v224 < (1 : Int32)) → wplI PP QQ (some (N, sg)) 0 lm0 702 [some (.ref 0), some (.ref 1), none, none, some (.int x4), none, none, some (.int x7), some (.int x8), none, none, none, none, none, some (.int x14), some (.int x15), some (.int x16), none, none, none, none] [] (W1 s223) Q) ∧ (¬ (v224 < (1 : Int32)) → ((v224 < (16 : Int32)) → calI PP 37 14 [.ref 0, .int x16] s223 (fun v233 s232 => ∀ m235, m235 = (if v233 = x14 then (x15 + (1 : Int32)) else x15) → (wplI PP QQ (some (N, sg)) 0 lm0 702 [some (.ref 0), some (.ref 1), none, none, some (.int x4), none, none, some (.int x7), some (.int x8), none, none, none, none, none, some (.int x14), some (.int m235), some (.int x16), none, none, none, none] [] (W1 s232) Q))) ∧ (¬ (v224 < (16 : Int32)) → wplI PP QQ (some (N, sg)) 0 lm0 702 [some (.ref 0), some (.ref 1), none, none, some (.int x4), none, none, some (.int x7), some (.int x8), none, none, none, none, none, some (.int x14), some (.int x15), some (.int x16), none, none, none, none] [] (W1 s223) Q)))) ∧ (¬ (x16 < x7) → wplI PP QQ (some (N, sg)) 0 lm0 711 [some (.ref 0), some (.ref 1), none, none, some (.int x4), none, none, some (.int x7), some (.int x8), none, none, none, none, none, some (.int x14), some (.int x15), some (.int (0 : Int32)), none, none, none, none] [] (W1 s) Q)) : wplI PP QQ (some (N, sg)) 0 lm0 660 [some (.ref 0), some (.ref 1), none, none, some (.int x4), none, none, some (.int x7), some (.int x8), none, none, none, none, none, some (.int x14), some (.int x15), some (.int x16), none, none, none, none] [] (W1 s) Q := by
  refine wpl_sl (n := 2) (pc' := 664) (ls' := [some (.ref 0), some (.ref 1), none, none, some (.int x4), none, none, some (.int x7), some (.int x8), none, none, none, none, none, some (.int x14), some (.int x15), some (.int x16), none, none, none, none]) (st' := [.int x7, .int x16]) rfl ?_
  refine wpl_icmp (a := 708) (b := 667) rfl (by decide) rfl rfl (wpl_br (p := x16 < x7) ⟨fun hc220 => ?_, fun hc220 => ?_⟩)
  · have h221 := h.1 hc220
    refine wpl_sl (n := 2) (pc' := 670) (ls' := [some (.ref 0), some (.ref 1), none, none, some (.int x4), none, none, some (.int x7), some (.int x8), none, none, none, none, none, some (.int x14), some (.int x15), some (.int x16), none, none, none, none]) (st' := [.int x16, .ref 1]) rfl ?_
    refine wpl_v1 (m' := 35) (me' := cm35) (as := [.int x16]) (r := []) rfl rfl rfl rfl rfl ⟨by decide, (by first | decide | exact Nat.le_of_ble_eq_true rfl), (by first | decide | exact Nat.le_of_ble_eq_true rfl), rfl⟩ (cal_I (calI.mono h221 fun v224 s223 h225 => ?_))
    refine wpl_sl (n := 3) (pc' := 678) (ls' := [some (.ref 0), some (.ref 1), none, none, some (.int x4), none, none, some (.int x7), some (.int x8), none, none, none, none, none, some (.int x14), some (.int x15), some (.int x16), some (.int v224), none, none, none]) (st' := [.int (1 : Int32), .int v224]) rfl ?_
    refine wpl_icmp (a := 702) (b := 681) rfl (by decide) rfl rfl (wpl_br (p := v224 < (1 : Int32)) ⟨fun hc226 => ?_, fun hc226 => ?_⟩)
    · have h227 := h225.1 hc226
      exact wpl_lle (ls := [some (.ref 0), some (.ref 1), none, none, some (.int x4), none, none, some (.int x7), some (.int x8), none, none, none, none, none, some (.int x14), some (.int x15), some (.int x16), none, none, none, none]) ⟨rfl, rfl, rfl, rfl, rfl, rfl, rfl, rfl, trivial⟩ h227
    · have h228 := h225.2 hc226
      refine wpl_sl (n := 2) (pc' := 685) (ls' := [some (.ref 0), some (.ref 1), none, none, some (.int x4), none, none, some (.int x7), some (.int x8), none, none, none, none, none, some (.int x14), some (.int x15), some (.int x16), some (.int v224), none, none, none]) (st' := [.int (16 : Int32), .int v224]) rfl ?_
      refine wpl_icmp (a := 702) (b := 688) rfl (by decide) rfl rfl (wpl_br (p := v224 < (16 : Int32)) ⟨fun hc229 => ?_, fun hc229 => ?_⟩)
      · have h230 := h228.1 hc229
        refine wpl_sl (n := 2) (pc' := 691) (ls' := [some (.ref 0), some (.ref 1), none, none, some (.int x4), none, none, some (.int x7), some (.int x8), none, none, none, none, none, some (.int x14), some (.int x15), some (.int x16), some (.int v224), none, none, none]) (st' := [.int x16, .ref 1]) rfl ?_
        refine wpl_v1 (m' := 37) (me' := cm37) (as := [.int x16]) (r := []) rfl rfl rfl rfl rfl ⟨by decide, (by first | decide | exact Nat.le_of_ble_eq_true rfl), (by first | decide | exact Nat.le_of_ble_eq_true rfl), rfl⟩ (cal_I (calI.mono h230 fun v233 s232 h234 => ?_))
        refine wpl_sl (n := 1) (pc' := 696) (ls' := [some (.ref 0), some (.ref 1), none, none, some (.int x4), none, none, some (.int x7), some (.int x8), none, none, none, none, none, some (.int x14), some (.int x15), some (.int x16), some (.int v224), none, none, none]) (st' := [.int x14, .int v233]) rfl ?_
        have hm236 : ∀ m235, m235 = (if v233 = x14 then (x15 + (1 : Int32)) else x15) → wplI PP QQ (some (N, sg)) 0 lm0 702 [some (.ref 0), some (.ref 1), none, none, some (.int x4), none, none, some (.int x7), some (.int x8), none, none, none, none, none, some (.int x14), some (.int m235), some (.int x16), some (.int v224), none, none, none] [] (W1 s232) Q := by
          intro m235 em235
          have h237 := h234 m235 em235
          exact wpl_lle (ls := [some (.ref 0), some (.ref 1), none, none, some (.int x4), none, none, some (.int x7), some (.int x8), none, none, none, none, none, some (.int x14), some (.int m235), some (.int x16), none, none, none, none]) ⟨rfl, rfl, rfl, rfl, rfl, rfl, rfl, rfl, trivial⟩ h237
        refine wpl_icmp (a := 702) (b := 699) rfl (by decide) rfl rfl (wpl_br (p := v233 = x14) ⟨fun hc238 => ?_, fun hc238 => ?_⟩)
        · refine wpl_sl (n := 1) (pc' := 702) (ls' := [some (.ref 0), some (.ref 1), none, none, some (.int x4), none, none, some (.int x7), some (.int x8), none, none, none, none, none, some (.int x14), some (.int (x15 + (1 : Int32))), some (.int x16), some (.int v224), none, none, none]) (st' := []) rfl ?_
          first | exact hm236 _ (by simp only [if_pos hc238]) | exact wpl_lle (by repeat (first | exact trivial | refine ⟨rfl, ?_⟩)) (hm236 _ (by simp only [if_pos hc238]))
        · first | exact hm236 _ (by simp only [if_neg hc238]) | exact wpl_lle (by repeat (first | exact trivial | refine ⟨rfl, ?_⟩)) (hm236 _ (by simp only [if_neg hc238]))
      · have h231 := h228.2 hc229
        exact wpl_lle (ls := [some (.ref 0), some (.ref 1), none, none, some (.int x4), none, none, some (.int x7), some (.int x8), none, none, none, none, none, some (.int x14), some (.int x15), some (.int x16), none, none, none, none]) ⟨rfl, rfl, rfl, rfl, rfl, rfl, rfl, rfl, trivial⟩ h231
  · have h222 := h.2 hc220
    refine wpl_sl (n := 2) (pc' := 711) (ls' := [some (.ref 0), some (.ref 1), none, none, some (.int x4), none, none, some (.int x7), some (.int x8), none, none, none, none, none, some (.int x14), some (.int x15), some (.int (0 : Int32)), none, none, none, none]) (st' := []) rfl ?_
    exact h222
theorem l0_536 (N : Nat) (sg : Nat → Int32) (x4 : Int32) (x7 : Int32) (x8 : Int32) (x9 : Int32) (x10 : Int32) (x11 : Int32) (x13 : Int32) (x16 : Int32) (x17 : Int32) (x18 : Int32)  (Q : Int32 → Wd → Prop) (h : ((x16 < (0 : Int32)) → (((0 : Int32) < x17) → ((x7 < x18) → wplI PP QQ (some (N, sg)) 0 lm0 616 [some (.ref 0), some (.ref 1), none, none, some (.int x4), none, none, some (.int x7), some (.int x8), some (.int x9), some (.int x10), some (.int x11), none, some (.int x13), none, none, some (.int x16), none, none, none, none] [] (W1 s) Q) ∧ (¬ (x7 < x18) → calI PP 36 14 [.ref 0, .int x17] s (fun v249 s248 => ((v249 < (0 : Int32)) → wplI PP QQ (some (N, sg)) 0 lm0 616 [some (.ref 0), some (.ref 1), none, none, some (.int x4), none, none, some (.int x7), some (.int x8), some (.int x9), some (.int x10), some (.int x11), none, some (.int x13), none, none, some (.int x16), none, none, none, none] [] (W1 s248) Q) ∧ (¬ (v249 < (0 : Int32)) → wplI PP QQ (some (N, sg)) 0 lm0 578 [some (.ref 0), some (.ref 1), none, none, some (.int x4), none, none, some (.int x7), some (.int x8), some (.int x9), some (.int x10), some (.int x11), none, some (.int x13), none, none, some (.int x16), none, some (.int (x18 + (1 : Int32))), some (.int v249), some (.int (x17 + (1 : Int32)))] [] (W1 s248) Q)))) ∧ (¬ ((0 : Int32) < x17) → wplI PP QQ (some (N, sg)) 0 lm0 616 [some (.ref 0), some (.ref 1), none, none, some (.int x4), none, none, some (.int x7), some (.int x8), some (.int x9), some (.int x10), some (.int x11), none, some (.int x13), none, none, some (.int x16), none, none, none, none] [] (W1 s) Q)) ∧ (¬ (x16 < (0 : Int32)) → wplI PP QQ (some (N, sg)) 0 lm0 616 [some (.ref 0), some (.ref 1), none, none, some (.int x4), none, none, some (.int x7), some (.int x8), some (.int x9), some (.int x10), some (.int x11), none, some (.int x13), none, none, some (.int x16), none, none, none, none] [] (W1 s) Q)) : wplI PP QQ (some (N, sg)) 0 lm0 536 [some (.ref 0), some (.ref 1), none, none, some (.int x4), none, none, some (.int x7), some (.int x8), some (.int x9), some (.int x10), some (.int x11), none, some (.int x13), none, none, some (.int x16), some (.int x17), some (.int x18), none, none] [] (W1 s) Q := by
  refine wpl_sl (n := 1) (pc' := 538) (ls' := [some (.ref 0), some (.ref 1), none, none, some (.int x4), none, none, some (.int x7), some (.int x8), some (.int x9), some (.int x10), some (.int x11), none, some (.int x13), none, none, some (.int x16), some (.int x17), some (.int x18), none, none]) (st' := [.int x16]) rfl ?_
  refine wpl_if (a := 616) (b := 541) rfl (by decide) rfl rfl (wpl_br (p := x16 < (0 : Int32)) ⟨fun hc239 => ?_, fun hc239 => ?_⟩)
  · have h240 := h.1 hc239
    refine wpl_sl (n := 1) (pc' := 543) (ls' := [some (.ref 0), some (.ref 1), none, none, some (.int x4), none, none, some (.int x7), some (.int x8), some (.int x9), some (.int x10), some (.int x11), none, some (.int x13), none, none, some (.int x16), some (.int x17), some (.int x18), none, none]) (st' := [.int x17]) rfl ?_
    refine wpl_if (a := 616) (b := 546) rfl (by decide) rfl rfl (wpl_br (p := (0 : Int32) < x17) ⟨fun hc242 => ?_, fun hc242 => ?_⟩)
    · have h243 := h240.1 hc242
      refine wpl_sl (n := 2) (pc' := 550) (ls' := [some (.ref 0), some (.ref 1), none, none, some (.int x4), none, none, some (.int x7), some (.int x8), some (.int x9), some (.int x10), some (.int x11), none, some (.int x13), none, none, some (.int x16), some (.int x17), some (.int x18), none, none]) (st' := [.int x7, .int x18]) rfl ?_
      refine wpl_icmp (a := 616) (b := 553) rfl (by decide) rfl rfl (wpl_br (p := x7 < x18) ⟨fun hc245 => ?_, fun hc245 => ?_⟩)
      · have h246 := h243.1 hc245
        exact wpl_lle (ls := [some (.ref 0), some (.ref 1), none, none, some (.int x4), none, none, some (.int x7), some (.int x8), some (.int x9), some (.int x10), some (.int x11), none, some (.int x13), none, none, some (.int x16), none, none, none, none]) ⟨rfl, rfl, rfl, rfl, rfl, rfl, rfl, rfl, rfl, rfl, trivial⟩ h246
      · have h247 := h243.2 hc245
        refine wpl_sl (n := 3) (pc' := 559) (ls' := [some (.ref 0), some (.ref 1), none, none, some (.int x4), none, none, some (.int x7), some (.int x8), some (.int x9), some (.int x10), some (.int x11), none, some (.int x13), none, none, some (.int x16), some (.int x17), some (.int (x18 + (1 : Int32))), none, none]) (st' := [.int x17, .ref 1]) rfl ?_
        refine wpl_v1 (m' := 36) (me' := cm36) (as := [.int x17]) (r := []) rfl rfl rfl rfl rfl ⟨by decide, (by first | decide | exact Nat.le_of_ble_eq_true rfl), (by first | decide | exact Nat.le_of_ble_eq_true rfl), rfl⟩ (cal_I (calI.mono h247 fun v249 s248 h250 => ?_))
        refine wpl_sl (n := 2) (pc' := 566) (ls' := [some (.ref 0), some (.ref 1), none, none, some (.int x4), none, none, some (.int x7), some (.int x8), some (.int x9), some (.int x10), some (.int x11), none, some (.int x13), none, none, some (.int x16), some (.int x17), some (.int (x18 + (1 : Int32))), some (.int v249), none]) (st' := [.int v249]) rfl ?_
        refine wpl_if (a := 572) (b := 569) rfl (by decide) rfl rfl (wpl_br (p := v249 < (0 : Int32)) ⟨fun hc251 => ?_, fun hc251 => ?_⟩)
        · have h252 := h250.1 hc251
          refine wpl_sl (n := 1) (pc' := 616) (ls' := [some (.ref 0), some (.ref 1), none, none, some (.int x4), none, none, some (.int x7), some (.int x8), some (.int x9), some (.int x10), some (.int x11), none, some (.int x13), none, none, some (.int x16), some (.int x17), some (.int (x18 + (1 : Int32))), some (.int v249), none]) (st' := []) rfl ?_
          exact wpl_lle (ls := [some (.ref 0), some (.ref 1), none, none, some (.int x4), none, none, some (.int x7), some (.int x8), some (.int x9), some (.int x10), some (.int x11), none, some (.int x13), none, none, some (.int x16), none, none, none, none]) ⟨rfl, rfl, rfl, rfl, rfl, rfl, rfl, rfl, rfl, rfl, trivial⟩ h252
        · have h253 := h250.2 hc251
          refine wpl_sl (n := 4) (pc' := 578) (ls' := [some (.ref 0), some (.ref 1), none, none, some (.int x4), none, none, some (.int x7), some (.int x8), some (.int x9), some (.int x10), some (.int x11), none, some (.int x13), none, none, some (.int x16), some (.int x17), some (.int (x18 + (1 : Int32))), some (.int v249), some (.int (x17 + (1 : Int32)))]) (st' := []) rfl ?_
          exact wpl_lle (ls := [some (.ref 0), some (.ref 1), none, none, some (.int x4), none, none, some (.int x7), some (.int x8), some (.int x9), some (.int x10), some (.int x11), none, some (.int x13), none, none, some (.int x16), none, some (.int (x18 + (1 : Int32))), some (.int v249), some (.int (x17 + (1 : Int32)))]) ⟨rfl, rfl, rfl, rfl, rfl, rfl, rfl, rfl, rfl, rfl, rfl, rfl, rfl, trivial⟩ h253
    · have h244 := h240.2 hc242
      exact wpl_lle (ls := [some (.ref 0), some (.ref 1), none, none, some (.int x4), none, none, some (.int x7), some (.int x8), some (.int x9), some (.int x10), some (.int x11), none, some (.int x13), none, none, some (.int x16), none, none, none, none]) ⟨rfl, rfl, rfl, rfl, rfl, rfl, rfl, rfl, rfl, rfl, trivial⟩ h244
  · have h241 := h.2 hc239
    exact wpl_lle (ls := [some (.ref 0), some (.ref 1), none, none, some (.int x4), none, none, some (.int x7), some (.int x8), some (.int x9), some (.int x10), some (.int x11), none, some (.int x13), none, none, some (.int x16), none, none, none, none]) ⟨rfl, rfl, rfl, rfl, rfl, rfl, rfl, rfl, rfl, rfl, trivial⟩ h241
theorem l0_702 (N : Nat) (sg : Nat → Int32) (x4 : Int32) (x7 : Int32) (x8 : Int32) (x14 : Int32) (x15 : Int32) (x16 : Int32)  (Q : Int32 → Wd → Prop) (h : wplI PP QQ (some (N, sg)) 0 lm0 660 [some (.ref 0), some (.ref 1), none, none, some (.int x4), none, none, some (.int x7), some (.int x8), none, none, none, none, none, some (.int x14), some (.int x15), some (.int (x16 + (1 : Int32))), none, none, none, none] [] (W1 s) Q) : wplI PP QQ (some (N, sg)) 0 lm0 702 [some (.ref 0), some (.ref 1), none, none, some (.int x4), none, none, some (.int x7), some (.int x8), none, none, none, none, none, some (.int x14), some (.int x15), some (.int x16), none, none, none, none] [] (W1 s) Q := by
  refine wpl_sl (n := 2) (pc' := 660) (ls' := [some (.ref 0), some (.ref 1), none, none, some (.int x4), none, none, some (.int x7), some (.int x8), none, none, none, none, none, some (.int x14), some (.int x15), some (.int (x16 + (1 : Int32))), none, none, none, none]) (st' := []) rfl ?_
  exact h
theorem l0_711 (N : Nat) (sg : Nat → Int32) (x4 : Int32) (x7 : Int32) (x8 : Int32) (x14 : Int32) (x15 : Int32) (x16 : Int32)  (Q : Int32 → Wd → Prop) (h : ((x16 < x8) → calI PP 33 14 [.ref 0, .int x16] s (fun v258 s257 => (((XT.ushr v258 (16 : Int32)) = (2 : Int32)) → ((((XT.ushr v258 (8 : Int32)) &&& (255 : Int32)) = x14) → lalI PP QQ (some (N, sg)) 9 [.ref 0, .int x14] (W1 s257) (fun v267 w266 => ∃ s269, w266 = W1 s269 ∧ ((((v258 &&& (255 : Int32)) = v267) → wplI PP QQ (some (N, sg)) 0 lm0 769 [some (.ref 0), some (.ref 1), none, none, some (.int x4), none, none, some (.int x7), some (.int x8), none, none, none, none, none, some (.int x14), some (.int (x15 + (1 : Int32))), some (.int x16), none, none, none, none] [] (W1 s269) Q) ∧ (¬ ((v258 &&& (255 : Int32)) = v267) → Q (0 : Int32) (W1 s269))))) ∧ (¬ (((XT.ushr v258 (8 : Int32)) &&& (255 : Int32)) = x14) → wplI PP QQ (some (N, sg)) 0 lm0 769 [some (.ref 0), some (.ref 1), none, none, some (.int x4), none, none, some (.int x7), some (.int x8), none, none, none, none, none, some (.int x14), some (.int x15), some (.int x16), none, none, none, none] [] (W1 s257) Q)) ∧ (¬ ((XT.ushr v258 (16 : Int32)) = (2 : Int32)) → wplI PP QQ (some (N, sg)) 0 lm0 769 [some (.ref 0), some (.ref 1), none, none, some (.int x4), none, none, some (.int x7), some (.int x8), none, none, none, none, none, some (.int x14), some (.int x15), some (.int x16), none, none, none, none] [] (W1 s257) Q))) ∧ (¬ (x16 < x8) → ((x15 = (1 : Int32)) → wplI PP QQ (some (N, sg)) 0 lm0 647 [some (.ref 0), some (.ref 1), none, none, some (.int x4), none, none, some (.int x7), some (.int x8), none, none, none, none, none, some (.int (x14 + (1 : Int32))), none, none, none, none, none, none] [] (W1 s) Q) ∧ (¬ (x15 = (1 : Int32)) → Q (0 : Int32) (W1 s)))) : wplI PP QQ (some (N, sg)) 0 lm0 711 [some (.ref 0), some (.ref 1), none, none, some (.int x4), none, none, some (.int x7), some (.int x8), none, none, none, none, none, some (.int x14), some (.int x15), some (.int x16), none, none, none, none] [] (W1 s) Q := by
  refine wpl_sl (n := 2) (pc' := 715) (ls' := [some (.ref 0), some (.ref 1), none, none, some (.int x4), none, none, some (.int x7), some (.int x8), none, none, none, none, none, some (.int x14), some (.int x15), some (.int x16), none, none, none, none]) (st' := [.int x8, .int x16]) rfl ?_
  refine wpl_icmp (a := 775) (b := 718) rfl (by decide) rfl rfl (wpl_br (p := x16 < x8) ⟨fun hc254 => ?_, fun hc254 => ?_⟩)
  · have h255 := h.1 hc254
    refine wpl_sl (n := 2) (pc' := 721) (ls' := [some (.ref 0), some (.ref 1), none, none, some (.int x4), none, none, some (.int x7), some (.int x8), none, none, none, none, none, some (.int x14), some (.int x15), some (.int x16), none, none, none, none]) (st' := [.int x16, .ref 1]) rfl ?_
    refine wpl_v1 (m' := 33) (me' := cm33) (as := [.int x16]) (r := []) rfl rfl rfl rfl rfl ⟨by decide, (by first | decide | exact Nat.le_of_ble_eq_true rfl), (by first | decide | exact Nat.le_of_ble_eq_true rfl), rfl⟩ (cal_I (calI.mono h255 fun v258 s257 h259 => ?_))
    refine wpl_sl (n := 5) (pc' := 732) (ls' := [some (.ref 0), some (.ref 1), none, none, some (.int x4), none, none, some (.int x7), some (.int x8), none, none, none, none, none, some (.int x14), some (.int x15), some (.int x16), some (.int v258), none, none, none]) (st' := [.int (2 : Int32), .int (XT.ushr v258 (16 : Int32))]) rfl ?_
    refine wpl_icmp (a := 769) (b := 735) rfl (by decide) rfl rfl (wpl_br (p := (XT.ushr v258 (16 : Int32)) = (2 : Int32)) ⟨fun hc260 => ?_, fun hc260 => ?_⟩)
    · have h261 := h259.1 hc260
      refine wpl_sl (n := 6) (pc' := 746) (ls' := [some (.ref 0), some (.ref 1), none, none, some (.int x4), none, none, some (.int x7), some (.int x8), none, none, none, none, none, some (.int x14), some (.int x15), some (.int x16), some (.int v258), none, none, none]) (st' := [.int x14, .int ((XT.ushr v258 (8 : Int32)) &&& (255 : Int32))]) rfl ?_
      refine wpl_icmp (a := 769) (b := 749) rfl (by decide) rfl rfl (wpl_br (p := ((XT.ushr v258 (8 : Int32)) &&& (255 : Int32)) = x14) ⟨fun hc263 => ?_, fun hc263 => ?_⟩)
      · have h264 := h261.1 hc263
        refine wpl_sl (n := 5) (pc' := 758) (ls' := [some (.ref 0), some (.ref 1), none, none, some (.int x4), none, none, some (.int x7), some (.int x8), none, none, none, none, none, some (.int x14), some (.int x15), some (.int x16), some (.int v258), none, none, none]) (st' := [.int x14, .ref 0, .int (v258 &&& (255 : Int32))]) rfl ?_
        refine wpl_stat (m' := 9) (me' := lm9) (as := [.ref 0, .int x14]) (r := [.int (v258 &&& (255 : Int32))]) rfl rfl rfl rfl rfl ⟨(by first | decide | exact Nat.le_of_ble_eq_true rfl), (by first | decide | exact Nat.le_of_ble_eq_true rfl), (by first | decide | exact Nat.le_of_ble_eq_true rfl), (by first | decide | exact Nat.le_of_ble_eq_true rfl), rfl⟩ (lal_I (lalI.mono h264 fun v267 w266 hh => ?_))
        obtain ⟨s269, rfl, h268⟩ := hh
        refine wpl_icmp (a := 766) (b := 764) rfl (by decide) rfl rfl (wpl_br (p := (v258 &&& (255 : Int32)) = v267) ⟨fun hc270 => ?_, fun hc270 => ?_⟩)
        · have h271 := h268.1 hc270
          refine wpl_sl (n := 1) (pc' := 769) (ls' := [some (.ref 0), some (.ref 1), none, none, some (.int x4), none, none, some (.int x7), some (.int x8), none, none, none, none, none, some (.int x14), some (.int (x15 + (1 : Int32))), some (.int x16), some (.int v258), none, none, none]) (st' := []) rfl ?_
          exact wpl_lle (ls := [some (.ref 0), some (.ref 1), none, none, some (.int x4), none, none, some (.int x7), some (.int x8), none, none, none, none, none, some (.int x14), some (.int (x15 + (1 : Int32))), some (.int x16), none, none, none, none]) ⟨rfl, rfl, rfl, rfl, rfl, rfl, rfl, rfl, trivial⟩ h271
        · have h272 := h268.2 hc270
          refine wpl_sl (n := 1) (pc' := 765) (ls' := [some (.ref 0), some (.ref 1), none, none, some (.int x4), none, none, some (.int x7), some (.int x8), none, none, none, none, none, some (.int x14), some (.int x15), some (.int x16), some (.int v258), none, none, none]) (st' := [.int (0 : Int32)]) rfl ?_
          exact wpl_ret rfl rfl rfl ⟨(0 : Int32), rfl, h272⟩
      · have h265 := h261.2 hc263
        exact wpl_lle (ls := [some (.ref 0), some (.ref 1), none, none, some (.int x4), none, none, some (.int x7), some (.int x8), none, none, none, none, none, some (.int x14), some (.int x15), some (.int x16), none, none, none, none]) ⟨rfl, rfl, rfl, rfl, rfl, rfl, rfl, rfl, trivial⟩ h265
    · have h262 := h259.2 hc260
      exact wpl_lle (ls := [some (.ref 0), some (.ref 1), none, none, some (.int x4), none, none, some (.int x7), some (.int x8), none, none, none, none, none, some (.int x14), some (.int x15), some (.int x16), none, none, none, none]) ⟨rfl, rfl, rfl, rfl, rfl, rfl, rfl, rfl, trivial⟩ h262
  · have h256 := h.2 hc254
    refine wpl_sl (n := 2) (pc' := 778) (ls' := [some (.ref 0), some (.ref 1), none, none, some (.int x4), none, none, some (.int x7), some (.int x8), none, none, none, none, none, some (.int x14), some (.int x15), some (.int x16), none, none, none, none]) (st' := [.int (1 : Int32), .int x15]) rfl ?_
    refine wpl_icmp (a := 783) (b := 781) rfl (by decide) rfl rfl (wpl_br (p := x15 = (1 : Int32)) ⟨fun hc273 => ?_, fun hc273 => ?_⟩)
    · have h274 := h256.1 hc273
      refine wpl_sl (n := 2) (pc' := 647) (ls' := [some (.ref 0), some (.ref 1), none, none, some (.int x4), none, none, some (.int x7), some (.int x8), none, none, none, none, none, some (.int (x14 + (1 : Int32))), some (.int x15), some (.int x16), none, none, none, none]) (st' := []) rfl ?_
      exact wpl_lle (ls := [some (.ref 0), some (.ref 1), none, none, some (.int x4), none, none, some (.int x7), some (.int x8), none, none, none, none, none, some (.int (x14 + (1 : Int32))), none, none, none, none, none, none]) ⟨rfl, rfl, rfl, rfl, rfl, rfl, trivial⟩ h274
    · have h275 := h256.2 hc273
      refine wpl_sl (n := 1) (pc' := 782) (ls' := [some (.ref 0), some (.ref 1), none, none, some (.int x4), none, none, some (.int x7), some (.int x8), none, none, none, none, none, some (.int x14), some (.int x15), some (.int x16), none, none, none, none]) (st' := [.int (0 : Int32)]) rfl ?_
      exact wpl_ret rfl rfl rfl ⟨(0 : Int32), rfl, h275⟩
theorem l0_616 (N : Nat) (sg : Nat → Int32) (x4 : Int32) (x7 : Int32) (x8 : Int32) (x9 : Int32) (x10 : Int32) (x11 : Int32) (x13 : Int32) (x16 : Int32)  (Q : Int32 → Wd → Prop) (h : wplI PP QQ (some (N, sg)) 0 lm0 388 [some (.ref 0), some (.ref 1), none, none, some (.int x4), none, none, some (.int x7), some (.int x8), some (.int x9), some (.int x10), some (.int x11), some (.int x16), some (.int x13), none, none, none, none, none, none, none] [] (W1 s) Q) : wplI PP QQ (some (N, sg)) 0 lm0 616 [some (.ref 0), some (.ref 1), none, none, some (.int x4), none, none, some (.int x7), some (.int x8), some (.int x9), some (.int x10), some (.int x11), none, some (.int x13), none, none, some (.int x16), none, none, none, none] [] (W1 s) Q := by
  refine wpl_sl (n := 3) (pc' := 388) (ls' := [some (.ref 0), some (.ref 1), none, none, some (.int x4), none, none, some (.int x7), some (.int x8), some (.int x9), some (.int x10), some (.int x11), some (.int x16), some (.int x13), none, none, some (.int x16), none, none, none, none]) (st' := []) rfl ?_
  exact wpl_lle (ls := [some (.ref 0), some (.ref 1), none, none, some (.int x4), none, none, some (.int x7), some (.int x8), some (.int x9), some (.int x10), some (.int x11), some (.int x16), some (.int x13), none, none, none, none, none, none, none]) ⟨rfl, rfl, rfl, rfl, rfl, rfl, rfl, rfl, rfl, rfl, trivial⟩ h
theorem l0_578 (N : Nat) (sg : Nat → Int32) (x4 : Int32) (x7 : Int32) (x8 : Int32) (x9 : Int32) (x10 : Int32) (x11 : Int32) (x13 : Int32) (x16 : Int32) (x18 : Int32) (x19 : Int32) (x20 : Int32)  (Q : Int32 → Wd → Prop) (h : ((x20 < x7) → calI PP 36 14 [.ref 0, .int x20] s (fun v280 s279 => ((v280 = x19) → wplI PP QQ (some (N, sg)) 0 lm0 609 [some (.ref 0), some (.ref 1), none, none, some (.int x4), none, none, some (.int x7), some (.int x8), some (.int x9), some (.int x10), some (.int x11), none, some (.int x13), none, none, some (.int x20), none, some (.int x18), some (.int x19), none] [] (W1 s279) Q) ∧ (¬ (v280 = x19) → wplI PP QQ (some (N, sg)) 0 lm0 578 [some (.ref 0), some (.ref 1), none, none, some (.int x4), none, none, some (.int x7), some (.int x8), some (.int x9), some (.int x10), some (.int x11), none, some (.int x13), none, none, some (.int x16), none, some (.int x18), some (.int x19), some (.int (x20 + (1 : Int32)))] [] (W1 s279) Q))) ∧ (¬ (x20 < x7) → wplI PP QQ (some (N, sg)) 0 lm0 609 [some (.ref 0), some (.ref 1), none, none, some (.int x4), none, none, some (.int x7), some (.int x8), some (.int x9), some (.int x10), some (.int x11), none, some (.int x13), none, none, some (.int x16), none, some (.int x18), some (.int x19), none] [] (W1 s) Q)) : wplI PP QQ (some (N, sg)) 0 lm0 578 [some (.ref 0), some (.ref 1), none, none, some (.int x4), none, none, some (.int x7), some (.int x8), some (.int x9), some (.int x10), some (.int x11), none, some (.int x13), none, none, some (.int x16), none, some (.int x18), some (.int x19), some (.int x20)] [] (W1 s) Q := by
  refine wpl_sl (n := 2) (pc' := 582) (ls' := [some (.ref 0), some (.ref 1), none, none, some (.int x4), none, none, some (.int x7), some (.int x8), some (.int x9), some (.int x10), some (.int x11), none, some (.int x13), none, none, some (.int x16), none, some (.int x18), some (.int x19), some (.int x20)]) (st' := [.int x7, .int x20]) rfl ?_
  refine wpl_icmp (a := 609) (b := 585) rfl (by decide) rfl rfl (wpl_br (p := x20 < x7) ⟨fun hc276 => ?_, fun hc276 => ?_⟩)
  · have h277 := h.1 hc276
    refine wpl_sl (n := 2) (pc' := 588) (ls' := [some (.ref 0), some (.ref 1), none, none, some (.int x4), none, none, some (.int x7), some (.int x8), some (.int x9), some (.int x10), some (.int x11), none, some (.int x13), none, none, some (.int x16), none, some (.int x18), some (.int x19), some (.int x20)]) (st' := [.int x20, .ref 1]) rfl ?_
    refine wpl_v1 (m' := 36) (me' := cm36) (as := [.int x20]) (r := []) rfl rfl rfl rfl rfl ⟨by decide, (by first | decide | exact Nat.le_of_ble_eq_true rfl), (by first | decide | exact Nat.le_of_ble_eq_true rfl), rfl⟩ (cal_I (calI.mono h277 fun v280 s279 h281 => ?_))
    refine wpl_sl (n := 1) (pc' := 593) (ls' := [some (.ref 0), some (.ref 1), none, none, some (.int x4), none, none, some (.int x7), some (.int x8), some (.int x9), some (.int x10), some (.int x11), none, some (.int x13), none, none, some (.int x16), none, some (.int x18), some (.int x19), some (.int x20)]) (st' := [.int x19, .int v280]) rfl ?_
    refine wpl_icmp (a := 603) (b := 596) rfl (by decide) rfl rfl (wpl_br (p := v280 = x19) ⟨fun hc282 => ?_, fun hc282 => ?_⟩)
    · have h283 := h281.1 hc282
      refine wpl_sl (n := 3) (pc' := 609) (ls' := [some (.ref 0), some (.ref 1), none, none, some (.int x4), none, none, some (.int x7), some (.int x8), some (.int x9), some (.int x10), some (.int x11), none, some (.int x13), none, none, some (.int x20), none, some (.int x18), some (.int x19), some (.int x20)]) (st' := []) rfl ?_
      exact wpl_lle (ls := [some (.ref 0), some (.ref 1), none, none, some (.int x4), none, none, some (.int x7), some (.int x8), some (.int x9), some (.int x10), some (.int x11), none, some (.int x13), none, none, some (.int x20), none, some (.int x18), some (.int x19), none]) ⟨rfl, rfl, rfl, rfl, rfl, rfl, rfl, rfl, rfl, rfl, rfl, rfl, trivial⟩ h283
    · have h284 := h281.2 hc282
      refine wpl_sl (n := 2) (pc' := 578) (ls' := [some (.ref 0), some (.ref 1), none, none, some (.int x4), none, none, some (.int x7), some (.int x8), some (.int x9), some (.int x10), some (.int x11), none, some (.int x13), none, none, some (.int x16), none, some (.int x18), some (.int x19), some (.int (x20 + (1 : Int32)))]) (st' := []) rfl ?_
      exact h284
  · have h278 := h.2 hc276
    exact wpl_lle (ls := [some (.ref 0), some (.ref 1), none, none, some (.int x4), none, none, some (.int x7), some (.int x8), some (.int x9), some (.int x10), some (.int x11), none, some (.int x13), none, none, some (.int x16), none, some (.int x18), some (.int x19), none]) ⟨rfl, rfl, rfl, rfl, rfl, rfl, rfl, rfl, rfl, rfl, rfl, rfl, trivial⟩ h278
theorem l0_769 (N : Nat) (sg : Nat → Int32) (x4 : Int32) (x7 : Int32) (x8 : Int32) (x14 : Int32) (x15 : Int32) (x16 : Int32)  (Q : Int32 → Wd → Prop) (h : wplI PP QQ (some (N, sg)) 0 lm0 711 [some (.ref 0), some (.ref 1), none, none, some (.int x4), none, none, some (.int x7), some (.int x8), none, none, none, none, none, some (.int x14), some (.int x15), some (.int (x16 + (1 : Int32))), none, none, none, none] [] (W1 s) Q) : wplI PP QQ (some (N, sg)) 0 lm0 769 [some (.ref 0), some (.ref 1), none, none, some (.int x4), none, none, some (.int x7), some (.int x8), none, none, none, none, none, some (.int x14), some (.int x15), some (.int x16), none, none, none, none] [] (W1 s) Q := by
  refine wpl_sl (n := 2) (pc' := 711) (ls' := [some (.ref 0), some (.ref 1), none, none, some (.int x4), none, none, some (.int x7), some (.int x8), none, none, none, none, none, some (.int x14), some (.int x15), some (.int (x16 + (1 : Int32))), none, none, none, none]) (st' := []) rfl ?_
  exact h
theorem l0_609 (N : Nat) (sg : Nat → Int32) (x4 : Int32) (x7 : Int32) (x8 : Int32) (x9 : Int32) (x10 : Int32) (x11 : Int32) (x13 : Int32) (x16 : Int32) (x18 : Int32) (x19 : Int32)  (Q : Int32 → Wd → Prop) (h : wplI PP QQ (some (N, sg)) 0 lm0 536 [some (.ref 0), some (.ref 1), none, none, some (.int x4), none, none, some (.int x7), some (.int x8), some (.int x9), some (.int x10), some (.int x11), none, some (.int x13), none, none, some (.int x16), some (.int x19), some (.int x18), none, none] [] (W1 s) Q) : wplI PP QQ (some (N, sg)) 0 lm0 609 [some (.ref 0), some (.ref 1), none, none, some (.int x4), none, none, some (.int x7), some (.int x8), some (.int x9), some (.int x10), some (.int x11), none, some (.int x13), none, none, some (.int x16), none, some (.int x18), some (.int x19), none] [] (W1 s) Q := by
  refine wpl_sl (n := 3) (pc' := 536) (ls' := [some (.ref 0), some (.ref 1), none, none, some (.int x4), none, none, some (.int x7), some (.int x8), some (.int x9), some (.int x10), some (.int x11), none, some (.int x13), none, none, some (.int x16), some (.int x19), some (.int x18), some (.int x19), none]) (st' := []) rfl ?_
  exact wpl_lle (ls := [some (.ref 0), some (.ref 1), none, none, some (.int x4), none, none, some (.int x7), some (.int x8), some (.int x9), some (.int x10), some (.int x11), none, some (.int x13), none, none, some (.int x16), some (.int x19), some (.int x18), none, none]) ⟨rfl, rfl, rfl, rfl, rfl, rfl, rfl, rfl, rfl, rfl, rfl, rfl, trivial⟩ h
/-! what the grammar and the tokens hold (three nonterminals, four terminals) -/
def own_vs (v : Int32) : Prop := (1 ≤ v.toInt ∧ v.toInt ≤ 4) ∨ (16 ≤ v.toInt ∧ v.toInt ≤ 19)
def own_A0 (s : St) : Prop := ((1 ≤ (gI s 0 15).toInt ∧ (gI s 0 15).toInt ≤ 4) ∧ (1 ≤ (gI s 0 16).toInt ∧ (gI s 0 16).toInt ≤ 4)) ∧ (0 ≤ (gI s 0 17).toInt ∧ (gI s 0 17).toInt ≤ 16) ∧ (0 ≤ (gI s 0 18).toInt ∧ (gI s 0 18).toInt ≤ 32) ∧ (∀ r, 0 ≤ (gI s 1 r).toInt ∧ (gI s 1 r).toInt ≤ 3) ∧ (∀ r, 0 ≤ (gI s 2 r).toInt ∧ (gI s 2 r).toInt ≤ 6) ∧ (∀ r j : Nat, (r : Int) < (gI s 0 17).toInt → (j : Int) < (gI s 2 r).toInt → own_vs (gI s 3 (r * 6 + j))) ∧ (∀ p : Nat, (p : Int) < (gI s 0 18).toInt → 1 ≤ (gI s 9 p).toInt ∧ (gI s 9 p).toInt ≤ 4)
def own_A1 (s : St) : Prop := (0 ≤ (gI s 0 20).toInt ∧ (gI s 0 20).toInt ≤ 256) ∧ (∀ k : Nat, (k : Int) < (gI s 0 20).toInt → 0 ≤ (gI s 8 k).toInt)
def own_A2 (s : St) : Prop := ∀ a : Nat, gI s 5 a &&& 1 = 0 ∧ ((∀ r : Nat, (r : Int) < (gI s 0 17).toInt → (gI s 1 r).toInt ≠ a) → gI s 5 a = 0 ∧ gI s 4 a = 0)
def own_A (s : St) : Prop := own_A0 s ∧ own_A1 s ∧ own_A2 s
theorem own_ne {s : St} {c j c' j' : Nat} {v : Int32} (h : ¬ (c' = c ∧ j' = j)) : gI (sI s c j v) c' j' = gI s c' j' := by rw [gI_sI, if_neg h]
theorem own_nc {s : St} {c j c' j' : Nat} {v : Int32} (h : c' ≠ c) : gI (sI s c j v) c' j' = gI s c' j' := by rw [gI_sI, if_neg (fun w => h w.1)]
theorem own_eq {s : St} {c j : Nat} {v : Int32} : gI (sI s c j v) c j = v := by rw [gI_sI, if_pos ⟨rfl, rfl⟩]
theorem own_A0_cg {s t : St} (A : own_A0 s) (h0 : ∀ j, 15 ≤ j → j ≤ 18 → gI t 0 j = gI s 0 j) (h : ∀ c j, (c = 1 ∨ c = 2 ∨ c = 3 ∨ c = 9) → gI t c j = gI s c j) : own_A0 t := by
  unfold own_A0
  simp only [h0 15 (by decide) (by decide), h0 16 (by decide) (by decide), h0 17 (by decide) (by decide), h0 18 (by decide) (by decide), h 1 _ (by decide), h 2 _ (by decide), h 3 _ (by decide), h 9 _ (by decide)]
  exact A
theorem own_A0_s {s : St} (A : own_A0 s) (c j : Nat) (v : Int32) (h0 : ¬ (c = 0 ∧ 15 ≤ j ∧ j ≤ 18)) (h : ¬ (c = 1 ∨ c = 2 ∨ c = 3 ∨ c = 9)) : own_A0 (sI s c j v) :=
  own_A0_cg A (fun i a b => own_ne (fun w => h0 ⟨w.1.symm, by omega⟩)) (fun d i hd => own_nc (fun w => h (by subst w; exact hd)))
theorem own_A1_s {s : St} (A : own_A1 s) (c j : Nat) (v : Int32) (h0 : ¬ (c = 0 ∧ j = 20)) (h : c ≠ 8) : own_A1 (sI s c j v) := by
  unfold own_A1
  simp only [own_ne (s := s) (c := c) (j := j) (v := v) (c' := 0) (j' := 20) (fun w => h0 ⟨w.1.symm, w.2.symm⟩), own_nc (s := s) (c := c) (j := j) (v := v) (c' := 8) (fun w => h w.symm)]
  exact A
theorem own_A2_s {s : St} (A : own_A2 s) (c j : Nat) (v : Int32) (h0 : ¬ (c = 0 ∧ j = 17)) (h : ¬ (c = 1 ∨ c = 4 ∨ c = 5)) : own_A2 (sI s c j v) := by
  unfold own_A2
  simp only [own_ne (s := s) (c := c) (j := j) (v := v) (c' := 0) (j' := 17) (fun w => h0 ⟨w.1.symm, w.2.symm⟩), own_nc (s := s) (c := c) (j := j) (v := v) (c' := 1) (fun w => h (by omega)), own_nc (s := s) (c := c) (j := j) (v := v) (c' := 4) (fun w => h (by omega)), own_nc (s := s) (c := c) (j := j) (v := v) (c' := 5) (fun w => h (by omega))]
  exact A
theorem own_A_s {s : St} (A : own_A s) (c j : Nat) (v : Int32) (h : c = 6 ∨ c = 7 ∨ 10 ≤ c ∨ (c = 0 ∧ 21 ≤ j) ∨ (c = 0 ∧ j = 19)) : own_A (sI s c j v) :=
  ⟨own_A0_s A.1 c j v (by omega) (by omega), own_A1_s A.2.1 c j v (by omega) (by omega), own_A2_s A.2.2 c j v (by omega) (by omega)⟩
theorem own_rk {r j : Int32} (hr : 0 ≤ r.toInt ∧ r.toInt < 16) (hj : 0 ≤ j.toInt ∧ j.toInt < 6) : inb 96 (r * 6 + j) ∧ ix (r * 6 + j) = ix r * 6 + ix j := by
  have e1 : (r * 6).toInt = r.toInt * 6 := by rw [i32_mul] <;> simp <;> omega
  have e2 : (r * 6 + j).toInt = r.toInt * 6 + j.toInt := by rw [i32_add] <;> rw [e1] <;> omega
  have a := ix_int hr.1
  have b := ix_int hj.1
  have c := ix_int (i := r * 6 + j) (by omega)
  exact ⟨⟨by omega, by show _ < (96 : Int); omega⟩, by omega⟩
theorem own_lt16 {x : Int32} : x < 16 ↔ x.toInt < 16 := i32_lt
theorem own_nt {x : Int32} (h : own_vs x) (g : ¬ x < 16) : (x - 16).toInt = x.toInt - 16 ∧ (0 ≤ (x - 16).toInt ∧ (x - 16).toInt ≤ 3) ∧ inb 8 (x - 16) := by
  rw [own_lt16] at g
  have q : 16 ≤ x.toInt ∧ x.toInt ≤ 19 := by rcases h with h | h <;> omega
  have e : (x - 16).toInt = x.toInt - 16 := by rw [i32_sub] <;> simp <;> omega
  exact ⟨e, by omega, ⟨by omega, by show _ < (8 : Int); omega⟩⟩
theorem own_b8 {x : Int32} (h : 0 ≤ x.toInt ∧ x.toInt ≤ 3) : inb 8 x := ⟨h.1, by show _ < (8 : Int); omega⟩
/-- bit 0 -/
theorem own_an (a b : Int32) : (a ||| b) &&& 1 = (a &&& 1) ||| (b &&& 1) := by
  apply Int32.toBitVec_inj.mp
  simp only [Int32.toBitVec_and, Int32.toBitVec_or]
  apply BitVec.eq_of_getLsbD_eq
  intro i hi
  simp [Bool.and_or_distrib_right]
theorem own_or0 {a b : Int32} (ha : a &&& 1 = 0) (hb : b &&& 1 = 0) : (a ||| b) &&& 1 = 0 := by rw [own_an, ha, hb]; decide
theorem own_n32 {i : Int32} {k : Nat} (h : i.toInt = k) : i = Int32.ofNat k := by
  rw [← Int32.toInt_inj, h]
  have : (k : Int) < 2147483648 := by have := i.toInt_lt; omega
  rw [Int32.toInt_ofNat_of_lt (by omega)]
theorem own_sh0 : ∀ a : Fin 4, ((1 : Int32) <<< (Int32.ofNat (a.val + 1) &&& 31)) &&& 1 = 0 := by decide +kernel
theorem own_sh {x : Int32} (h : own_vs x) (g : x < 16) : ((1 : Int32) <<< (x &&& 31)) &&& 1 = 0 := by
  rw [own_lt16] at g
  have q : 1 ≤ x.toInt ∧ x.toInt ≤ 4 := by rcases h with h | h <;> omega
  have e := ix_int (i := x) (by omega)
  have := own_sh0 ⟨ix x - 1, by omega⟩
  have w : ix x - 1 + 1 = ix x := by omega
  simp only [w] at this
  rw [← own_n32 (i := x) (k := ix x) (by omega)] at this
  exact this
theorem own_or1 {a b : Int32} (ha : a &&& 1 = 1) : (a ||| b) &&& 1 = 1 := by
  rw [own_an, ha]
  apply Int32.toBitVec_inj.mp
  simp only [Int32.toBitVec_and, Int32.toBitVec_or]
  apply BitVec.eq_of_getLsbD_eq
  intro i hi
  show ((1#32 ||| (b.toBitVec &&& 1#32)).getLsbD i) = (1#32).getLsbD i
  by_cases z : i = 0
  · subst z; simp
  · simp [z]
/-- seqNullable, firstOfSeq -/
theorem own_s7 (s : St) (A : own_A s) (r f : Int32) (hr : 0 ≤ r.toInt ∧ r.toInt < (gI s 0 17).toInt) (hf : 0 ≤ f.toInt ∧ f.toInt ≤ 6) (Q : Int32 → St → Prop) (h : ∀ v, Q v s) : calI PP 7 14 [.ref 0, .int r, .int f] s Q := by
  obtain ⟨_, y17, _, y1, y2, y3, _⟩ := A.1
  have l := y2 (ix r)
  have hr' : 0 ≤ r.toInt ∧ r.toInt < 16 := by omega
  have er := ix_int hr.1
  apply c7_in
  refine ⟨hr', ?_⟩
  by_cases big : f.toInt ≤ (gI s 2 (ix r)).toInt
  · refine loop_up (F := fun j => wpcI PP 7 cm7 14 10 [some (.ref 0), some (.int r), none, some (.int (gI s 2 (ix r))), some (.int j), none] [] s Q) (gI s 2 (ix r)).toInt (by omega) (fun j j0 j1 e ih => ?_) (fun j hj => c7_10 _ _ _ _ _ ⟨fun w => absurd w (by rw [i32_lt]; omega), fun _ => h _⟩) f hf.1 big
    have kb := own_rk hr' (j := j) ⟨j0, by omega⟩
    have ej := ix_int j0
    have v := y3 (ix r) (ix j) (by omega) (by omega)
    rw [← kb.2] at v
    exact c7_10 _ _ _ _ _ ⟨fun _ => ⟨kb.1, fun _ => h _, fun g => ⟨(own_nt v g).2.2, fun _ => h _, fun _ => ih⟩⟩, fun w => absurd (by rw [i32_lt]; exact j1) w⟩
  · exact c7_10 _ _ _ _ _ ⟨fun w => absurd w (by rw [i32_lt]; omega), fun _ => h _⟩
theorem own_s8 (s : St) (A : own_A s) (r f : Int32) (hr : 0 ≤ r.toInt ∧ r.toInt < (gI s 0 17).toInt) (hf : 0 ≤ f.toInt ∧ f.toInt ≤ 6) (Q : Int32 → St → Prop) (h : ∀ v, v &&& 1 = 0 → Q v s) : calI PP 8 14 [.ref 0, .int r, .int f] s Q := by
  obtain ⟨_, y17, _, y1, y2, y3, _⟩ := A.1
  have a2 := A.2.2
  have l := y2 (ix r)
  have hr' : 0 ≤ r.toInt ∧ r.toInt < 16 := by omega
  have er := ix_int hr.1
  apply c8_in
  refine ⟨hr', ?_⟩
  by_cases big : f.toInt ≤ (gI s 2 (ix r)).toInt
  · refine loop_up (F := fun j => ∀ m : Int32, m &&& 1 = 0 → wpcI PP 8 cm8 14 13 [some (.ref 0), some (.int r), none, some (.int (gI s 2 (ix r))), some (.int m), some (.int j), none] [] s Q) (gI s 2 (ix r)).toInt (by omega) (fun j j0 j1 e ih m hm => ?_) (fun j hj m hm => c8_13 _ _ _ _ _ _ ⟨fun w => absurd w (by rw [i32_lt]; omega), fun _ => h _ hm⟩) f hf.1 big 0 (by decide)
    have kb := own_rk hr' (j := j) ⟨j0, by omega⟩
    have ej := ix_int j0
    have v := y3 (ix r) (ix j) (by omega) (by omega)
    rw [← kb.2] at v
    exact c8_13 _ _ _ _ _ _ ⟨fun _ => ⟨kb.1, fun g => h _ (own_or0 hm (own_sh v g)), fun g => ⟨(own_nt v g).2.2, (own_nt v g).2.2, fun _ => h _ (own_or0 hm (a2 _).1), fun _ => ih _ (own_or0 hm (a2 _).1)⟩⟩, fun w => absurd (by rw [i32_lt]; exact j1) w⟩
  · exact c8_13 _ _ _ _ _ _ ⟨fun w => absurd w (by rw [i32_lt]; omega), fun _ => h _ (by decide)⟩
/-- what the passes keep -/
def own_U (s t : St) : Prop := own_A t ∧ gI t 0 17 = gI s 0 17 ∧ (∀ c j, c ≠ 4 → c ≠ 5 → c ≠ 6 → gI t c j = gI s c j) ∧ (gI s 6 0 &&& 1 = 1 → gI t 6 0 &&& 1 = 1)
theorem own_U_rfl {s : St} (A : own_A s) : own_U s s := ⟨A, rfl, fun _ _ _ _ _ => rfl, id⟩
theorem own_U_tr {s t u : St} (h : own_U s t) (k : own_U t u) : own_U s u := ⟨k.1, by rw [k.2.1, h.2.1], fun c j a b d => by rw [k.2.2.1 c j a b d, h.2.2.1 c j a b d], fun z => k.2.2.2 (h.2.2.2 z)⟩
theorem own_U4 {s : St} (A : own_A s) (r : Nat) (hr : (r : Int) < (gI s 0 17).toInt) (v : Int32) : own_U s (sI s 4 (ix (gI s 1 r)) v) := by
  have e := ix_int ((A.1.2.2.2.1 r).1)
  refine ⟨⟨own_A0_s A.1 4 _ v (by omega) (by omega), own_A1_s A.2.1 4 _ v (by omega) (by omega), fun a => ?_⟩, own_nc (by decide), fun c j a _ _ => own_nc a, fun z => by rw [own_nc (by decide)]; exact z⟩
  rw [own_nc (by decide), own_nc (by decide)]
  refine ⟨(A.2.2 a).1, fun z => ?_⟩
  have z' : ∀ r : Nat, (r : Int) < (gI s 0 17).toInt → (gI s 1 r).toInt ≠ a := fun r h => by
    have := z r h
    rw [own_nc (by decide)] at this
    exact this
  rw [own_ne (fun w => z' r hr (by rw [w.2]; omega))]
  exact (A.2.2 a).2 z'
theorem own_U5 {s : St} (A : own_A s) (r : Nat) (hr : (r : Int) < (gI s 0 17).toInt) (v : Int32) (hv : v &&& 1 = 0) : own_U s (sI s 5 (ix (gI s 1 r)) v) := by
  have e := ix_int ((A.1.2.2.2.1 r).1)
  refine ⟨⟨own_A0_s A.1 5 _ v (by omega) (by omega), own_A1_s A.2.1 5 _ v (by omega) (by omega), fun a => ?_⟩, own_nc (by decide), fun c j _ a _ => own_nc a, fun z => by rw [own_nc (by decide)]; exact z⟩
  rw [own_nc (c' := 0) (by decide), own_nc (c' := 4) (by decide)]
  refine ⟨?_, fun z => ?_⟩
  · rw [gI_sI]
    split
    · exact hv
    · exact (A.2.2 a).1
  have z' : ∀ r : Nat, (r : Int) < (gI s 0 17).toInt → (gI s 1 r).toInt ≠ a := fun r h => by
    have := z r h
    rw [own_nc (by decide)] at this
    exact this
  rw [own_ne (fun w => z' r hr (by rw [w.2]; omega))]
  exact (A.2.2 a).2 z'
theorem own_U6 {s : St} (A : own_A s) (j : Nat) (v : Int32) : own_U s (sI s 6 j (gI s 6 j ||| v)) := by
  refine ⟨own_A_s A 6 _ _ (by omega), own_nc (by decide), fun c j _ _ a => own_nc a, fun z => ?_⟩
  rw [gI_sI]
  split
  · rename_i w
    rw [← w.2]; exact own_or1 z
  · exact z
/-- nullablePass, firstPass, followRule, followPass -/
theorem own_s9 (s : St) (A : own_A s) (Q : Int32 → St → Prop) (h : ∀ v t, own_U s t → Q v t) : calI PP 9 14 [.ref 0] s Q := by
  have r17 := A.1.2.1
  apply c9_in
  refine loop_up (F := fun i => ∀ (x : Int32) u, own_U s u → wpcI PP 9 cm9 14 4 [some (.ref 0), some (.int x), some (.int i), none] [] u Q) (gI s 0 17).toInt (by omega) (fun i i0 i1 e ih x u U => ?_) (fun i hi x u U => c9_4 _ _ _ _ ⟨fun w => absurd w (by rw [U.2.1, i32_lt]; omega), fun _ => h _ u U⟩) 0 (by decide) (by simpa using r17.1) 0 s (own_U_rfl A)
  have ei := ix_int i0
  have ib : inb 16 i := ⟨i0, by show _ < (16 : Int); omega⟩
  have ab := own_b8 (U.1.1.2.2.2.1 (ix i))
  have ir : 0 ≤ i.toInt ∧ i.toInt < (gI u 0 17).toInt := by rw [U.2.1]; exact ⟨i0, i1⟩
  have nx : ∀ x, wpcI PP 9 cm9 14 46 [some (.ref 0), some (.int x), some (.int i), none] [] u Q := fun x => c9_46 _ _ _ _ (ih x u U)
  exact c9_4 _ _ _ _ ⟨fun _ => ⟨ib, ab, fun _ => own_s7 u U.1 i 0 ir (by decide) _ fun v => ⟨fun _ => nx x, fun _ => ⟨ab, c9_46 _ _ _ _ (ih _ _ (own_U_tr U (own_U4 U.1 (ix i) (by omega) _)))⟩⟩, fun _ => nx x⟩, fun w => absurd (by rw [U.2.1, i32_lt]; exact i1) w⟩
theorem own_s10 (s : St) (A : own_A s) (Q : Int32 → St → Prop) (h : ∀ v t, own_U s t → Q v t) : calI PP 10 14 [.ref 0] s Q := by
  have r17 := A.1.2.1
  apply c10_in
  refine loop_up (F := fun i => ∀ (x : Int32) u, own_U s u → wpcI PP 10 cm10 14 4 [some (.ref 0), some (.int x), some (.int i), none, none] [] u Q) (gI s 0 17).toInt (by omega) (fun i i0 i1 e ih x u U => ?_) (fun i hi x u U => c10_4 _ _ _ _ ⟨fun w => absurd w (by rw [U.2.1, i32_lt]; omega), fun _ => h _ u U⟩) 0 (by decide) (by simpa using r17.1) 0 s (own_U_rfl A)
  have ei := ix_int i0
  have ib : inb 16 i := ⟨i0, by show _ < (16 : Int); omega⟩
  have ab := own_b8 (U.1.1.2.2.2.1 (ix i))
  have ir : 0 ≤ i.toInt ∧ i.toInt < (gI u 0 17).toInt := by rw [U.2.1]; exact ⟨i0, i1⟩
  exact c10_4 _ _ _ _ ⟨fun _ => ⟨ib, own_s8 u U.1 i 0 ir (by decide) _ fun v hv => ⟨ab, ab, fun _ => c10_62 _ _ _ _ (ih x u U), fun _ => ⟨ab, ab, c10_62 _ _ _ _ (ih _ _ (own_U_tr U (own_U5 U.1 (ix i) (by omega) _ (own_or0 (U.1.2.2 _).1 hv))))⟩⟩⟩, fun w => absurd (by rw [U.2.1, i32_lt]; exact i1) w⟩
theorem own_s12 (s : St) (A : own_A s) (r : Int32) (hr : 0 ≤ r.toInt ∧ r.toInt < (gI s 0 17).toInt) (Q : Int32 → St → Prop) (h : ∀ v t, own_U s t → Q v t) : calI PP 12 14 [.ref 0, .int r] s Q := by
  have r17 := A.1.2.1
  have l := A.1.2.2.2.2.1 (ix r)
  have ab := own_b8 (A.1.2.2.2.1 (ix r))
  have hr' : 0 ≤ r.toInt ∧ r.toInt < 16 := by omega
  have er := ix_int hr.1
  have rb : inb 16 r := hr'
  apply c12_in
  refine ⟨rb, rb, ?_⟩
  refine loop_up (F := fun i => ∀ (x : Int32) u, own_U s u → wpcI PP 12 cm12 14 20 [some (.ref 0), some (.int r), some (.int (gI s 1 (ix r))), some (.int (gI s 2 (ix r))), some (.int x), some (.int i), none, none, none] [] u Q) (gI s 2 (ix r)).toInt (by omega) (fun i i0 i1 e ih x u U => ?_) (fun i hi x u U => c12_20 _ _ _ _ _ _ _ ⟨fun w => absurd w (by rw [i32_lt]; omega), fun _ => h _ u U⟩) 0 (by decide) (by simp; omega) 0 s (own_U_rfl A)
  have kb := own_rk hr' (j := i) ⟨i0, by omega⟩
  have ei := ix_int i0
  have l2 : gI u 2 (ix r) = gI s 2 (ix r) := U.2.2.1 2 _ (by decide) (by decide) (by decide)
  have v := U.1.1.2.2.2.2.2.1 (ix r) (ix i) (by rw [U.2.1]; omega) (by rw [l2]; omega)
  rw [← kb.2] at v
  have ru : 0 ≤ r.toInt ∧ r.toInt < (gI u 0 17).toInt := by rw [U.2.1]; exact hr
  refine c12_20 _ _ _ _ _ _ _ ⟨fun _ => ⟨kb.1, fun _ => c12_131 _ _ _ _ _ _ _ (ih x u U), fun g => ?_⟩, fun w => absurd (by rw [i32_lt]; exact i1) w⟩
  have nb := (own_nt v g).2.2
  have go : ∀ m : Int32, wpcI PP 12 cm12 14 91 [some (.ref 0), some (.int r), some (.int (gI s 1 (ix r))), some (.int (gI s 2 (ix r))), some (.int x), some (.int i), none, some (.int (gI u 3 (ix (r * 6 + i)) - 16)), some (.int m)] [] u Q := fun m => c12_91 _ _ _ _ _ _ _ _ _ ⟨nb, nb, fun _ => c12_131 _ _ _ _ _ _ _ (ih x u U), fun _ => ⟨nb, nb, c12_131 _ _ _ _ _ _ _ (ih _ _ (own_U_tr U (own_U6 U.1 _ _)))⟩⟩
  exact own_s8 u U.1 r (i + 1) ru (by omega) _ fun v1 _ => own_s7 u U.1 r (i + 1) ru (by omega) _ fun v2 => ⟨fun _ => go _, fun _ => ⟨ab, go _⟩⟩
theorem own_s11 (s : St) (A : own_A s) (Q : Int32 → St → Prop) (h : ∀ v t, own_U s t → Q v t) : calI PP 11 14 [.ref 0] s Q := by
  have r17 := A.1.2.1
  apply c11_in
  refine loop_up (F := fun i => ∀ (x : Int32) u, own_U s u → wpcI PP 11 cm11 14 4 [some (.ref 0), some (.int x), some (.int i)] [] u Q) (gI s 0 17).toInt (by omega) (fun i i0 i1 e ih x u U => ?_) (fun i hi x u U => c11_4 _ _ _ _ ⟨fun w => absurd w (by rw [U.2.1, i32_lt]; omega), fun _ => h _ u U⟩) 0 (by decide) (by simpa using r17.1) 0 s (own_U_rfl A)
  exact c11_4 _ _ _ _ ⟨fun _ => own_s12 u U.1 i (by rw [U.2.1]; exact ⟨i0, i1⟩) _ fun v t Ut m _ => ih m t (own_U_tr U Ut), fun w => absurd (by rw [U.2.1, i32_lt]; exact i1) w⟩

/-! the table -/
def own_te (s : St) (a t : Nat) : Prop := gI s 7 (a * 16 + t) = -1 ∨ (0 ≤ (gI s 7 (a * 16 + t)).toInt ∧ (gI s 7 (a * 16 + t)).toInt < (gI s 0 17).toInt ∧ (gI s 1 (ix (gI s 7 (a * 16 + t)))).toInt = a)
def own_T (s : St) : Prop := ∀ a t : Nat, a ≤ 3 → t ≤ 4 → own_te s a t
theorem own_tk {a t : Int32} (ha : 0 ≤ a.toInt ∧ a.toInt ≤ 3) (ht : 0 ≤ t.toInt ∧ t.toInt ≤ 4) : inb 128 (a * 16 + t) ∧ ix (a * 16 + t) = ix a * 16 + ix t := by
  have e1 : (a * 16).toInt = a.toInt * 16 := by rw [i32_mul] <;> simp <;> omega
  have e2 : (a * 16 + t).toInt = a.toInt * 16 + t.toInt := by rw [i32_add] <;> rw [e1] <;> omega
  have a' := ix_int ha.1
  have b := ix_int ht.1
  have c := ix_int (i := a * 16 + t) (by omega)
  exact ⟨⟨by omega, by show _ < (128 : Int); omega⟩, by omega⟩
theorem own_T_cg {s t : St} (T : own_T s) (h7 : ∀ j, gI t 7 j = gI s 7 j) (h1 : ∀ j, gI t 1 j = gI s 1 j) (h17 : gI t 0 17 = gI s 0 17) : own_T t := by
  unfold own_T own_te
  simp only [h7, h1, h17]
  exact T
theorem own_cf0 : ∀ a : Fin 4, ∀ t : Fin 5, ∀ c : Fin 16, ∀ r : Fin 16, 0 ≤ ((((Int32.ofNat a.val <<< ((16 : Int32) &&& 31)) ||| (Int32.ofNat t.val <<< ((8 : Int32) &&& 31))) ||| (Int32.ofNat c.val <<< ((4 : Int32) &&& 31))) ||| Int32.ofNat r.val).toInt := by decide +kernel
theorem own_cf {a t c r : Int32} (ha : 0 ≤ a.toInt ∧ a.toInt ≤ 3) (ht : 0 ≤ t.toInt ∧ t.toInt ≤ 4) (hc : 0 ≤ c.toInt ∧ c.toInt < 16) (hr : 0 ≤ r.toInt ∧ r.toInt < 16) : 0 ≤ ((((a <<< ((16 : Int32) &&& 31)) ||| (t <<< ((8 : Int32) &&& 31))) ||| (c <<< ((4 : Int32) &&& 31))) ||| r).toInt := by
  have e1 := ix_int ha.1
  have e2 := ix_int ht.1
  have e3 := ix_int hc.1
  have e4 := ix_int hr.1
  have := own_cf0 ⟨ix a, by omega⟩ ⟨ix t, by omega⟩ ⟨ix c, by omega⟩ ⟨ix r, by omega⟩
  rw [← own_n32 (i := a) (k := ix a) (by omega), ← own_n32 (i := t) (k := ix t) (by omega), ← own_n32 (i := c) (k := ix c) (by omega), ← own_n32 (i := r) (k := ix r) (by omega)] at this
  exact this
def own_V (s t : St) : Prop := own_A t ∧ own_T t ∧ (∀ c j, c ≠ 7 → c ≠ 8 → ¬ (c = 0 ∧ j = 20) → gI t c j = gI s c j)
theorem own_V17 {s t : St} (h : own_V s t) : gI t 0 17 = gI s 0 17 := h.2.2 0 17 (by decide) (by decide) (by decide)
theorem own_V_tr {s t u : St} (h : own_V s t) (k : own_V t u) : own_V s u := ⟨k.1, k.2.1, fun c j a b d => by rw [k.2.2 c j a b d, h.2.2 c j a b d]⟩
theorem own_s13 (s : St) (A : own_A s) (r : Int32) (hr : 0 ≤ r.toInt ∧ r.toInt < (gI s 0 17).toInt) (Q : Int32 → St → Prop) (h : ∀ v, Q v s) : calI PP 13 14 [.ref 0, .int r] s Q := by
  have r17 := A.1.2.1
  apply c13_in
  exact own_s8 s A r 0 hr (by decide) _ fun v _ => own_s7 s A r 0 hr (by decide) _ fun w => ⟨fun _ => h _, fun _ => ⟨⟨hr.1, by show _ < (16 : Int); omega⟩, own_b8 (A.1.2.2.2.1 (ix r)), h _⟩⟩
theorem own_u1 {x : Int32} (h : 0 ≤ x.toInt ∧ x.toInt ≤ 256) : (x + 1).toInt = x.toInt + 1 := by rw [i32_add] <;> simp <;> omega
theorem own_lt256 {x : Int32} : x < 256 ↔ x.toInt < 256 := i32_lt
theorem own_lt0 {x : Int32} : x < 0 ↔ x.toInt < 0 := i32_lt
theorem own_gt4 {x : Int32} : (4 : Int32) < x ↔ 4 < x.toInt := i32_lt
theorem own_V7 {s : St} (A : own_A s) (T : own_T s) (r t : Int32) (hr : 0 ≤ r.toInt ∧ r.toInt < (gI s 0 17).toInt) (ht : 0 ≤ t.toInt ∧ t.toInt ≤ 4) : own_V s (sI s 7 (ix (gI s 1 (ix r) * 16 + t)) r) := by
  have ha := A.1.2.2.2.1 (ix r)
  have k := (own_tk ha ht).2
  have er := ix_int hr.1
  have ea := ix_int ha.1
  have et := ix_int ht.1
  refine ⟨own_A_s A 7 _ _ (by omega), fun a' t' ha' ht' => ?_, fun c j a _ _ => own_nc a⟩
  unfold own_te
  rw [own_nc (c' := 0) (by decide)]
  by_cases w : a' * 16 + t' = ix (gI s 1 (ix r) * 16 + t)
  · right
    rw [w, own_eq, own_nc (by decide)]
    refine ⟨hr.1, hr.2, ?_⟩
    omega
  · rw [own_ne (fun q => w q.2), own_nc (by decide)]
    exact T a' t' ha' ht'
theorem own_V8 {s : St} (A : own_A s) (T : own_T s) (v : Int32) (lt : (gI s 0 20).toInt < 256) (hv : 0 ≤ v.toInt) : own_V s (sI (sI s 8 (ix (gI s 0 20)) v) 0 20 (gI s 0 20 + 1)) := by
  have y20 := A.2.1.1
  have u1 := own_u1 (x := gI s 0 20) y20
  have e := ix_int y20.1
  refine ⟨⟨own_A0_s (own_A0_s A.1 8 _ _ (by omega) (by omega)) 0 20 _ (by omega) (by omega), ⟨?_, fun k hk => ?_⟩, own_A2_s (own_A2_s A.2.2 8 _ _ (by omega) (by omega)) 0 20 _ (by omega) (by omega)⟩, own_T_cg T (fun j => by rw [own_nc (by decide), own_nc (by decide)]) (fun j => by rw [own_nc (by decide), own_nc (by decide)]) (by rw [own_ne (by decide), own_nc (by decide)]), fun c j _ a b => by rw [own_ne b, own_nc a]⟩
  · rw [own_eq]; omega
  · rw [own_eq] at hk
    rw [own_nc (by decide), gI_sI]
    split
    · exact hv
    · rename_i w
      exact A.2.1.2 k (by have : k ≠ ix (gI s 0 20) := fun q => w ⟨rfl, q⟩
                          omega)
theorem own_s15 (s : St) (A : own_A s) (T : own_T s) (r : Int32) (hr : 0 ≤ r.toInt ∧ r.toInt < (gI s 0 17).toInt) (Q : St → Prop) (h : ∀ t, own_V s t → Q t) : calV PP 15 14 [.ref 0, .int r] s Q := by
  have r17 := A.1.2.1
  have ha := A.1.2.2.2.1 (ix r)
  have t16 := A.1.1.2
  have ea := ix_int ha.1
  apply c15_in
  refine own_s13 s A r hr _ fun p => ⟨⟨hr.1, by show _ < (16 : Int); omega⟩, ?_⟩
  refine loop_up (F := fun i => ∀ u, own_V s u → wpcV PP 15 cm15 14 16 [some (.ref 0), some (.int r), some (.int p), some (.int (gI s 1 (ix r))), some (.int i), none, none] [] u Q) ((gI s 0 16).toInt + 1) (by omega) (fun i i0 i1 e ih u V => ?_) (fun i hi u V => c15_16 _ _ _ _ _ _ ⟨fun _ => h u V, fun w => absurd (by rw [V.2.2 0 16 (by decide) (by decide) (by decide), i32_lt]; omega) w⟩) 0 (by decide) (by show (0 : Int) ≤ _; omega) s ⟨A, T, fun _ _ _ _ _ => rfl⟩
  have kb := own_tk ha (t := i) ⟨i0, by omega⟩
  have ei := ix_int i0
  have e17 := own_V17 V
  have e1 : gI u 1 (ix r) = gI s 1 (ix r) := V.2.2 1 _ (by decide) (by decide) (fun w => absurd w.1 (by decide))
  have y20 := V.1.2.1.1
  have te := V.2.1 (ix (gI s 1 (ix r))) (ix i) (by omega) (by omega)
  unfold own_te at te
  rw [← kb.2] at te
  refine c15_16 _ _ _ _ _ _ ⟨fun _ => h u V, fun _ => ⟨fun _ => c15_117 _ _ _ _ _ _ (ih u V), fun _ => ⟨kb.1, fun _ => ⟨kb.1, c15_117 _ _ _ _ _ _ (ih _ (own_V_tr V ?_))⟩, fun g => ⟨fun lt => ?_, fun _ => c15_117 _ _ _ _ _ _ (ih u V)⟩⟩⟩⟩
  · have := own_V7 V.1 V.2.1 r i (by rw [e17]; exact hr) ⟨i0, by omega⟩
    rw [e1] at this
    exact this
  · rw [own_lt256] at lt
    rw [own_lt0] at g
    have c : 0 ≤ (gI u 7 (ix (gI s 1 (ix r) * 16 + i))).toInt ∧ (gI u 7 (ix (gI s 1 (ix r) * 16 + i))).toInt < 16 := by
      rcases te with q | q
      · rw [q] at g; exact absurd (by decide) g
      · rw [e17] at q; omega
    exact ⟨⟨y20.1, lt⟩, c15_117 _ _ _ _ _ _ (ih _ (own_V_tr V (own_V8 V.1 V.2.1 _ lt (own_cf ha ⟨i0, by omega⟩ c ⟨hr.1, by omega⟩))))⟩
theorem own_s14 (s : St) (A : own_A s) (Q : St → Prop) (h : ∀ t, own_V s t → Q t) : calV PP 14 14 [.ref 0] s Q := by
  have r17 := A.1.2.1
  apply c14_in
  refine loop_up (F := fun i => ∀ u, own_A u → (∀ j : Nat, (j : Int) < i.toInt → gI u 7 j = -1) → (∀ c j, c ≠ 7 → gI u c j = gI s c j) → wpcV PP 14 cm14 14 2 [some (.ref 0), some (.int i)] [] u Q) 128 (by decide) (fun i i0 i1 e ih u Au hu fr => c14_2 _ _ _ ⟨fun _ => ⟨⟨i0, i1⟩, ih _ (own_A_s Au 7 _ _ (by omega)) (fun j hj => ?_) (fun c j hc => by rw [own_nc hc]; exact fr c j hc)⟩, fun w => absurd (by rw [i32_lt]; exact i1) w⟩) (fun i hi u Au hu fr => c14_2 _ _ _ ⟨fun w => absurd w (by rw [i32_lt, hi]; decide), fun _ => ?_⟩) 0 (by decide) (by decide) s A (fun j hj => absurd hj (by simp)) (fun _ _ _ => rfl)
  · have ei := ix_int i0
    rw [gI_sI]
    split
    · rfl
    · rename_i w
      exact hu j (by have : j ≠ ix i := fun q => w ⟨rfl, q⟩
                     omega)
  · have V0 : own_V s u := ⟨Au, fun a t ha ht => Or.inl (hu _ (by omega)), fun c j a _ _ => fr c j a⟩
    refine loop_up (F := fun i => ∀ u, own_V s u → wpcV PP 14 cm14 14 24 [some (.ref 0), some (.int i)] [] u Q) (gI s 0 17).toInt (by omega) (fun i i0 i1 e ih u V => c14_24 _ _ _ ⟨fun _ => own_s15 u V.1 V.2.1 i (by rw [own_V17 V]; exact ⟨i0, i1⟩) _ fun t Vt => ih t (own_V_tr V Vt), fun w => absurd (by rw [own_V17 V, i32_lt]; exact i1) w⟩) (fun i hi u V => c14_24 _ _ _ ⟨fun w => absurd w (by rw [own_V17 V, i32_lt]; omega), fun _ => h u V⟩) 0 (by decide) (by simpa using r17.1) u V0
/-- build -/
theorem own_s6 (s : St) (A : own_A s) (Q : Int32 → St → Prop) (h0 : gI s 0 24 ≠ 0 → Q (-1) s) (h : ∀ t, gI s 0 24 = 0 → own_A t → own_T t → gI t 6 0 &&& 1 = 1 → gI t 0 24 = 1 → (∀ c j, c ≠ 4 → c ≠ 5 → c ≠ 6 → c ≠ 7 → c ≠ 8 → ¬ (c = 0 ∧ (j = 20 ∨ j = 24)) → gI t c j = gI s c j) → Q (gI t 0 20) t) : calI PP 6 14 [.ref 0] s Q := by
  apply c6_in
  refine ⟨fun z => ?_, fun z => h0 z⟩
  generalize hs1 : sI s 0 24 1 = s1
  have A1 : own_A s1 := by rw [← hs1]; exact own_A_s A 0 24 1 (by omega)
  have d3 : ∀ u, own_A u → (∀ c j, c ≠ 4 → c ≠ 5 → c ≠ 6 → gI u c j = gI s1 c j) → gI u 6 0 &&& 1 = 1 → wpcI PP 6 cm6 14 95 [some (.ref 0), none] [] u Q := fun u Au fr e6 => c6_95 _ _ (own_s14 u Au _ fun t Vt => h t z Vt.1 Vt.2.1 (by rw [Vt.2.2 6 0 (by decide) (by decide) (by decide)]; exact e6) (by rw [Vt.2.2 0 24 (by decide) (by decide) (by decide), fr 0 24 (by decide) (by decide) (by decide), ← hs1, own_eq]) (fun c j a4 a5 a6 a7 a8 a0 => by rw [Vt.2.2 c j a7 a8 (fun w => a0 ⟨w.1, Or.inl w.2⟩), fr c j a4 a5 a6, ← hs1, own_ne (fun w => a0 ⟨w.1, Or.inr w.2⟩)]))
  have d2 : ∀ u, own_U s1 u → wpcI PP 6 cm6 14 63 [some (.ref 0), none] [] u Q := fun u U => by
    refine c6_63 _ _ ⟨by decide, ?_⟩
    have A2 : own_A (sI u 6 (ix 0) 1) := own_A_s U.1 6 _ _ (by omega)
    have e2 : gI (sI u 6 (ix 0) 1) 6 0 &&& 1 = 1 := by rw [show ix (0 : Int32) = 0 from rfl, own_eq]; decide
    have f2 : ∀ c j, c ≠ 4 → c ≠ 5 → c ≠ 6 → gI (sI u 6 (ix 0) 1) c j = gI s1 c j := fun c j a b d => by rw [own_nc d]; exact U.2.2.1 c j a b d
    generalize sI u 6 (ix 0) 1 = s2 at A2 e2 f2
    have go : ∀ w, own_U s2 w → wpcI PP 6 cm6 14 95 [some (.ref 0), none] [] w Q := fun w Uw => d3 w Uw.1 (fun c j a b d => by rw [Uw.2.2.1 c j a b d]; exact f2 c j a b d) (Uw.2.2.2 e2)
    exact loop_up (F := fun i => ∀ w, own_U s2 w → wpcI PP 6 cm6 14 72 [some (.ref 0), some (.int i)] [] w Q) 256 (by decide) (fun i i0 i1 e ih w Uw => c6_72 _ _ _ ⟨fun _ => own_s11 w Uw.1 _ fun v t Ut => ⟨fun _ => go t (own_U_tr Uw Ut), fun _ => ih t (own_U_tr Uw Ut)⟩, fun w => absurd (by rw [i32_lt]; exact i1) w⟩) (fun i hi w Uw => c6_72 _ _ _ ⟨fun w => absurd w (by rw [i32_lt, hi]; decide), fun _ => go w Uw⟩) 0 (by decide) (by decide) s2 (own_U_rfl A2)
  have d1 : ∀ u, own_U s1 u → wpcI PP 6 cm6 14 38 [some (.ref 0), none] [] u Q := fun u U => by
    apply c6_38
    exact loop_up (F := fun i => ∀ w, own_U s1 w → wpcI PP 6 cm6 14 40 [some (.ref 0), some (.int i)] [] w Q) 256 (by decide) (fun i i0 i1 e ih w Uw => c6_40 _ _ _ ⟨fun _ => own_s10 w Uw.1 _ fun v t Ut => ⟨fun _ => d2 t (own_U_tr Uw Ut), fun _ => ih t (own_U_tr Uw Ut)⟩, fun w => absurd (by rw [i32_lt]; exact i1) w⟩) (fun i hi w Uw => c6_40 _ _ _ ⟨fun w => absurd w (by rw [i32_lt, hi]; decide), fun _ => d2 w Uw⟩) 0 (by decide) (by decide) u U
  exact loop_up (F := fun i => ∀ w, own_U s1 w → wpcI PP 6 cm6 14 16 [some (.ref 0), some (.int i)] [] w Q) 64 (by decide) (fun i i0 i1 e ih w Uw => c6_16 _ _ _ ⟨fun _ => own_s9 w Uw.1 _ fun v t Ut => ⟨fun _ => d1 t (own_U_tr Uw Ut), fun _ => ih t (own_U_tr Uw Ut)⟩, fun w => absurd (by rw [i32_lt]; exact i1) w⟩) (fun i hi w Uw => c6_16 _ _ _ ⟨fun w => absurd w (by rw [i32_lt, hi]; decide), fun _ => d1 w Uw⟩) 0 (by decide) (by decide) s1 (own_U_rfl A1)

/-! parse: the tree, the stack, the errors -/
def own_M (s : St) : Nat → Int
  | 0 => 0
  | n + 1 => own_M s n + (if (gI s 10 n).toInt < 16 ∧ 0 ≤ (gI s 12 n).toInt then 1 else 0)
def own_S (s : St) : Nat → Int
  | 0 => 0
  | n + 1 => own_S s n + (if gI s 14 n >>> ((16 : Int32) &&& 31) = 2 then 1 else 0)
theorem own_M_cg {s t : St} (n : Nat) (h : ∀ i, i < n → (((gI t 10 i).toInt < 16 ∧ 0 ≤ (gI t 12 i).toInt) ↔ ((gI s 10 i).toInt < 16 ∧ 0 ≤ (gI s 12 i).toInt))) : own_M t n = own_M s n := by
  induction n with
  | zero => rfl
  | succ n ih =>
    unfold own_M
    rw [ih (fun i hi => h i (by omega))]
    simp only [h n (by omega)]
theorem own_M_up {s t : St} (n m : Nat) (hm : m < n) (h : ∀ i, i < n → i ≠ m → (((gI t 10 i).toInt < 16 ∧ 0 ≤ (gI t 12 i).toInt) ↔ ((gI s 10 i).toInt < 16 ∧ 0 ≤ (gI s 12 i).toInt))) (ht : (gI t 10 m).toInt < 16 ∧ 0 ≤ (gI t 12 m).toInt) (hs : ¬ ((gI s 10 m).toInt < 16 ∧ 0 ≤ (gI s 12 m).toInt)) : own_M t n = own_M s n + 1 := by
  induction n with
  | zero => omega
  | succ n ih =>
    unfold own_M
    by_cases e : m = n
    · subst e
      rw [own_M_cg (s := s) m (fun i hi => h i (by omega) (by omega)), if_pos ht, if_neg hs]; omega
    · rw [ih (by omega) (fun i hi => h i (by omega))]
      simp only [h n (by omega) (fun q => e q.symm)]
      omega
theorem own_M_more {s : St} (n k : Nat) (h : ∀ i, n ≤ i → i < n + k → (gI s 12 i).toInt < 0) : own_M s (n + k) = own_M s n := by
  induction k with
  | zero => rfl
  | succ k ih =>
    show own_M s (n + k) + (if (gI s 10 (n + k)).toInt < 16 ∧ 0 ≤ (gI s 12 (n + k)).toInt then 1 else 0) = _
    rw [ih (fun i a b => h i a (by omega)), if_neg (fun w => absurd w.2 (by have := h (n + k) (by omega) (by omega); omega))]; omega
theorem own_S_cg {s t : St} (n : Nat) (h : ∀ i, i < n → gI t 14 i = gI s 14 i) : own_S t n = own_S s n := by
  induction n with
  | zero => rfl
  | succ n ih =>
    unfold own_S
    rw [ih (fun i hi => h i (by omega)), h n (by omega)]
/-- a node -/
def own_nd (s : St) (i : Nat) : Prop := (0 < i → 0 ≤ (gI s 11 i).toInt ∧ (gI s 11 i).toInt < i) ∧ own_vs (gI s 10 i) ∧ ((gI s 10 i).toInt < 16 → -1 ≤ (gI s 12 i).toInt ∧ (gI s 12 i).toInt < (gI s 0 18).toInt) ∧ (16 ≤ (gI s 10 i).toInt → gI s 12 i = -1 ∨ (0 ≤ (gI s 12 i).toInt ∧ (gI s 12 i).toInt < (gI s 0 17).toInt ∧ (gI s 1 (ix (gI s 12 i))).toInt = (gI s 10 i).toInt - 16))
def own_kd (w : Int32) : Prop := 1 ≤ (w >>> ((16 : Int32) &&& 31)).toInt ∧ (w >>> ((16 : Int32) &&& 31)).toInt ≤ 3
def own_K (s : St) : Prop := (1 ≤ (gI s 0 19).toInt ∧ (gI s 0 19).toInt ≤ 256) ∧ (0 ≤ (gI s 0 22).toInt ∧ (gI s 0 22).toInt ≤ (gI s 0 19).toInt) ∧ (0 ≤ (gI s 0 23).toInt ∧ (gI s 0 23).toInt ≤ (gI s 0 18).toInt) ∧ (0 ≤ (gI s 0 21).toInt ∧ (gI s 0 21).toInt ≤ (gI s 0 19).toInt - (gI s 0 22).toInt + (gI s 0 23).toInt) ∧ (gI s 10 0 = 16 ∧ gI s 11 0 = -1) ∧ (∀ i : Nat, (i : Int) < (gI s 0 19).toInt → own_nd s i) ∧ (∀ i : Nat, (i : Int) < (gI s 0 22).toInt → 0 ≤ (gI s 13 i).toInt ∧ (gI s 13 i).toInt < (gI s 0 19).toInt ∧ gI s 12 (ix (gI s 13 i)) = -1) ∧ (∀ i j : Nat, (i : Int) < (gI s 0 22).toInt → (j : Int) < (gI s 0 22).toInt → gI s 13 i = gI s 13 j → i = j) ∧ ((gI s 0 21).toInt ≤ 64 → own_M s (ix (gI s 0 19)) + own_S s (ix (gI s 0 21)) = (gI s 0 23).toInt) ∧ (∀ k : Nat, (k : Int) < (gI s 0 21).toInt → k < 64 → own_kd (gI s 14 k))
/-- what parse leaves as it stands -/
def own_Z (s t : St) : Prop := ∀ c j, c < 10 → ¬ (c = 0 ∧ (j = 19 ∨ j = 21 ∨ j = 22 ∨ j = 23)) → gI t c j = gI s c j
theorem own_Z_s {s t : St} (Z : own_Z s t) (c j : Nat) (v : Int32) (h : 10 ≤ c ∨ (c = 0 ∧ (j = 19 ∨ j = 21 ∨ j = 22 ∨ j = 23))) : own_Z s (sI t c j v) := fun d i hd hi => by
  rw [own_ne (fun w => ?_)]
  · exact Z d i hd hi
  · obtain ⟨w1, w2⟩ := w
    subst w1; subst w2
    rcases h with h | h
    · omega
    · exact hi h
theorem own_Z_A {s t : St} (Z : own_Z s t) (A : own_A s) : own_A t := by
  have z0 : ∀ j, j ≠ 19 → j ≠ 21 → j ≠ 22 → j ≠ 23 → gI t 0 j = gI s 0 j := fun j a b c d => Z 0 j (by decide) (by omega)
  have zc : ∀ c j, 0 < c → c < 10 → gI t c j = gI s c j := fun c j a b => Z c j b (by omega)
  refine ⟨own_A0_cg A.1 (fun j a b => z0 j (by omega) (by omega) (by omega) (by omega)) (fun c j hc => zc c j (by omega) (by omega)), ?_, ?_⟩
  · unfold own_A1
    simp only [z0 20 (by decide) (by decide) (by decide) (by decide), zc 8 _ (by decide) (by decide)]
    exact A.2.1
  · unfold own_A2
    simp only [z0 17 (by decide) (by decide) (by decide) (by decide), zc 1 _ (by decide) (by decide), zc 4 _ (by decide) (by decide), zc 5 _ (by decide) (by decide)]
    exact A.2.2
theorem own_Z_T {s t : St} (Z : own_Z s t) (T : own_T s) : own_T t := own_T_cg T (fun j => Z 7 j (by decide) (by omega)) (fun j => Z 1 j (by decide) (by omega)) (Z 0 17 (by decide) (by decide))
/-- the word of an error -/
theorem own_ek0 : ∀ k : Fin 4, ∀ p : Fin 33, ∀ x : Fin 20, (((Int32.ofNat k.val <<< ((16 : Int32) &&& 31)) ||| (Int32.ofNat p.val <<< ((8 : Int32) &&& 31))) ||| Int32.ofNat x.val) >>> ((16 : Int32) &&& 31) = Int32.ofNat k.val := by decide +kernel
theorem own_ek {k p x : Int32} (hk : 0 ≤ k.toInt ∧ k.toInt ≤ 3) (hp : 0 ≤ p.toInt ∧ p.toInt ≤ 32) (hx : 0 ≤ x.toInt ∧ x.toInt ≤ 19) : (((k <<< ((16 : Int32) &&& 31)) ||| (p <<< ((8 : Int32) &&& 31))) ||| x) >>> ((16 : Int32) &&& 31) = k := by
  have e1 := ix_int hk.1
  have e2 := ix_int hp.1
  have e3 := ix_int hx.1
  have := own_ek0 ⟨ix k, by omega⟩ ⟨ix p, by omega⟩ ⟨ix x, by omega⟩
  rw [← own_n32 (i := k) (k := ix k) (by omega), ← own_n32 (i := p) (k := ix p) (by omega), ← own_n32 (i := x) (k := ix x) (by omega)] at this
  exact this
/-- record -/
def own_rc (u t : St) (w : Int32) : Prop := (∀ c j, c ≠ 14 → ¬ (c = 0 ∧ j = 21) → gI t c j = gI u c j) ∧ gI t 0 21 = gI u 0 21 + 1 ∧ (∀ k, k ≠ ix (gI u 0 21) → gI t 14 k = gI u 14 k) ∧ ((gI u 0 21).toInt < 64 → gI t 14 (ix (gI u 0 21)) = w)
theorem own_lt64 {x : Int32} : x < 64 ↔ x.toInt < 64 := i32_lt
theorem own_s24 (u : St) (a b c : Int32) (e0 : 0 ≤ (gI u 0 21).toInt) (Q : St → Prop) (h : ∀ t, own_rc u t (((a <<< ((16 : Int32) &&& 31)) ||| (b <<< ((8 : Int32) &&& 31))) ||| c) → Q t) : calV PP 24 14 [.ref 0, .int a, .int b, .int c] u Q := by
  apply c24_in
  refine ⟨fun z => absurd z (by rw [own_lt0]; omega), fun _ => ⟨fun lt => ?_, fun lt => c24_36 _ _ (h _ ⟨fun c j _ hj => own_ne hj, own_eq, fun k _ => own_nc (by decide), fun q => absurd (own_lt64.mpr q) lt⟩)⟩⟩
  rw [own_lt64] at lt
  refine ⟨⟨e0, lt⟩, c24_36 _ _ (h _ ⟨fun c j hc hj => by rw [own_ne hj, own_nc hc], ?_, fun k hk => by rw [own_nc (by decide), own_ne (fun w => hk w.2)], fun _ => by rw [own_nc (by decide), own_eq]⟩)⟩
  rw [own_eq, own_nc (by decide)]
/-- lookahead -/
def own_la (u : St) : Int32 := if (gI u 0 23).toInt < (gI u 0 18).toInt then gI u 9 (ix (gI u 0 23)) else 0
theorem own_s23 (u : St) (A : own_A u) (p0 : 0 ≤ (gI u 0 23).toInt) (Q : Int32 → St → Prop) (h : Q (own_la u) u) : calI PP 23 14 [.ref 0] u Q := by
  have y18 := A.1.2.2.1
  have lt32 : gI u 0 23 < 32 ↔ (gI u 0 23).toInt < 32 := i32_lt
  apply c23_in
  unfold own_la at h
  refine ⟨fun z => absurd z (by rw [own_lt0]; omega), fun _ => ⟨fun lt => ?_, fun lt => ?_⟩⟩
  · rw [i32_lt] at lt
    rw [if_pos lt] at h
    exact ⟨fun _ => ⟨⟨p0, by show _ < (32 : Int); omega⟩, h⟩, fun z => absurd (lt32.mpr (by omega)) z⟩
  · rw [i32_lt] at lt
    rw [if_neg lt] at h; exact h
theorem own_la_r (u : St) (A : own_A u) (p0 : 0 ≤ (gI u 0 23).toInt) : (0 ≤ (own_la u).toInt ∧ (own_la u).toInt ≤ 4) ∧ ((own_la u).toInt ≠ 0 → (gI u 0 23).toInt < (gI u 0 18).toInt) := by
  unfold own_la
  split
  · rename_i lt
    have e := ix_int p0
    have := A.1.2.2.2.2.2.2 (ix (gI u 0 23)) (by omega)
    exact ⟨by omega, fun _ => lt⟩
  · exact ⟨by decide, fun q => absurd (by decide) q⟩
theorem own_ixu {x : Int32} (h : 0 ≤ x.toInt ∧ x.toInt ≤ 1000) : (x + 1).toInt = x.toInt + 1 ∧ ix (x + 1) = ix x + 1 := by
  have e : (x + 1).toInt = x.toInt + 1 := by rw [i32_add] <;> simp <;> omega
  have a := ix_int h.1
  have b := ix_int (i := x + 1) (by omega)
  exact ⟨e, by omega⟩
theorem own_nd_cg {s t : St} (i : Nat) (h : own_nd s i) (h10 : gI t 10 i = gI s 10 i) (h11 : gI t 11 i = gI s 11 i) (h12 : gI t 12 i = gI s 12 i) (h1 : ∀ j, gI t 1 j = gI s 1 j) (h17 : gI t 0 17 = gI s 0 17) (h18 : gI t 0 18 = gI s 0 18) : own_nd t i := by
  unfold own_nd
  rw [h10, h11, h12, h17, h18, h1]
  exact h
/-- an error is recorded: a token is skipped, or the stack is popped -/
theorem own_K_rec {u t : St} (w k : Int32) (K : own_K u) (T32 : (gI u 0 18).toInt ≤ 32) (fr : ∀ c j, c ≠ 14 → ¬ (c = 0 ∧ (j = 21 ∨ j = 22 ∨ j = 23)) → gI t c j = gI u c j) (e1 : gI t 0 21 = gI u 0 21 + 1) (er : ∀ k, k ≠ ix (gI u 0 21) → gI t 14 k = gI u 14 k) (ew : (gI u 0 21).toInt < 64 → gI t 14 (ix (gI u 0 21)) = w) (hw : w >>> ((16 : Int32) &&& 31) = k) (hk : 1 ≤ k.toInt ∧ k.toInt ≤ 3)
    (h : (k = 2 ∧ gI t 0 22 = gI u 0 22 ∧ (gI t 0 23).toInt = (gI u 0 23).toInt + 1 ∧ (gI u 0 23).toInt < (gI u 0 18).toInt) ∨ (k ≠ 2 ∧ 1 ≤ (gI u 0 22).toInt ∧ (gI t 0 22).toInt = (gI u 0 22).toInt - 1 ∧ gI t 0 23 = gI u 0 23)) : own_K t := by
  obtain ⟨k19, k22, k23, k21, k0, kn, ks, kj, km, ke⟩ := K
  have f19 : gI t 0 19 = gI u 0 19 := fr 0 19 (by decide) (by decide)
  have f18 : gI t 0 18 = gI u 0 18 := fr 0 18 (by decide) (by decide)
  have f17 : gI t 0 17 = gI u 0 17 := fr 0 17 (by decide) (by decide)
  have fc : ∀ c j, c ≠ 14 → c ≠ 0 → gI t c j = gI u c j := fun c j a b => fr c j a (fun q => b q.1)
  have ex := own_ixu (x := gI u 0 21) ⟨k21.1, by omega⟩
  have ei := ix_int k21.1
  have sp : (gI t 0 22).toInt ≤ (gI u 0 22).toInt ∧ 0 ≤ (gI t 0 22).toInt := by
    rcases h with h | h
    · rw [h.2.1]; omega
    · omega
  have po : 0 ≤ (gI t 0 23).toInt ∧ (gI t 0 23).toInt ≤ (gI u 0 18).toInt := by
    rcases h with h | h
    · omega
    · rw [h.2.2.2]; omega
  have ph : (gI u 0 23).toInt - (gI u 0 22).toInt + 1 = (gI t 0 23).toInt - (gI t 0 22).toInt := by
    rcases h with h | h
    · rw [h.2.1]; omega
    · rw [h.2.2.2]; omega
  unfold own_K
  rw [f19, f18, e1, ex.1, ex.2]
  refine ⟨k19, by omega, po, by omega, ⟨by rw [fc 10 0 (by decide) (by decide)]; exact k0.1, by rw [fc 11 0 (by decide) (by decide)]; exact k0.2⟩, fun i hi => own_nd_cg i (kn i hi) (fc 10 i (by decide) (by decide)) (fc 11 i (by decide) (by decide)) (fc 12 i (by decide) (by decide)) (fun j => fc 1 j (by decide) (by decide)) f17 f18, fun i hi => ?_, fun i j hi hj => ?_, fun le => ?_, fun m hm m64 => ?_⟩
  · rw [fc 13 i (by decide) (by decide), fc 12 _ (by decide) (by decide)]
    exact ks i (by omega)
  · rw [fc 13 i (by decide) (by decide), fc 13 j (by decide) (by decide)]
    exact kj i j (by omega) (by omega)
  · have m1 : own_M t (ix (gI u 0 19)) = own_M u (ix (gI u 0 19)) := own_M_cg _ (fun i hi => by rw [fc 10 i (by decide) (by decide), fc 12 i (by decide) (by decide)])
    have s1 : own_S t (ix (gI u 0 21)) = own_S u (ix (gI u 0 21)) := own_S_cg _ (fun i hi => er i (by omega))
    have := km (by omega)
    show own_M t (ix (gI u 0 19)) + (own_S t (ix (gI u 0 21)) + (if gI t 14 (ix (gI u 0 21)) >>> ((16 : Int32) &&& 31) = 2 then 1 else 0)) = _
    rw [m1, s1, ew (by omega), hw]
    rcases h with h | h
    · rw [if_pos h.1]; omega
    · rw [if_neg h.1, h.2.2.2]; omega
  · by_cases c : m = ix (gI u 0 21)
    · subst c
      rw [ew (by omega)]
      unfold own_kd
      rw [hw]; exact hk
    · rw [er m c]
      exact ke m (by omega) m64
/-- a terminal is matched -/
theorem own_K_mat {u t : St} (K : own_K u) (T32 : (gI u 0 18).toInt ≤ 32) (sp : 1 ≤ (gI u 0 22).toInt) (m : Nat) (hm : (m : Int) + 1 = (gI u 0 22).toInt) (fr : ∀ c j, ¬ (c = 12 ∧ j = ix (gI u 13 m)) → ¬ (c = 0 ∧ (j = 22 ∨ j = 23)) → gI t c j = gI u c j) (hd : gI t 12 (ix (gI u 13 m)) = gI u 0 23) (x16 : (gI u 10 (ix (gI u 13 m))).toInt < 16) (lt : (gI u 0 23).toInt < (gI u 0 18).toInt) (e22 : (gI t 0 22).toInt = (gI u 0 22).toInt - 1) (e23 : (gI t 0 23).toInt = (gI u 0 23).toInt + 1) : own_K t := by
  obtain ⟨k19, k22, k23, k21, k0, kn, ks, kj, km, ke⟩ := K
  have f0 : ∀ j, j ≠ 22 → j ≠ 23 → gI t 0 j = gI u 0 j := fun j a b => fr 0 j (fun q => absurd q.1 (by decide)) (by omega)
  have f19 : gI t 0 19 = gI u 0 19 := f0 19 (by decide) (by decide)
  have f18 : gI t 0 18 = gI u 0 18 := f0 18 (by decide) (by decide)
  have f17 : gI t 0 17 = gI u 0 17 := f0 17 (by decide) (by decide)
  have f21 : gI t 0 21 = gI u 0 21 := f0 21 (by decide) (by decide)
  have fc : ∀ c j, c ≠ 12 → c ≠ 0 → gI t c j = gI u c j := fun c j a b => fr c j (fun q => a q.1) (fun q => b q.1)
  have fd : ∀ j, j ≠ ix (gI u 13 m) → gI t 12 j = gI u 12 j := fun j a => fr 12 j (fun q => a q.2) (fun q => absurd q.1 (by decide))
  have sm := ks m (by omega)
  have em := ix_int sm.1
  unfold own_K
  rw [f19, f18, f21]
  refine ⟨k19, by omega, by omega, by omega, ⟨by rw [fc 10 0 (by decide) (by decide)]; exact k0.1, by rw [fc 11 0 (by decide) (by decide)]; exact k0.2⟩, fun i hi => ?_, fun i hi => ?_, fun i j hi hj => ?_, fun le => ?_, fun k hk k64 => ?_⟩
  · by_cases c : i = ix (gI u 13 m)
    · have nd := kn i hi
      unfold own_nd at nd ⊢
      rw [fc 10 i (by decide) (by decide), fc 11 i (by decide) (by decide), f18]
      subst c
      rw [hd]
      exact ⟨nd.1, nd.2.1, fun _ => by omega, fun q => absurd q (by omega)⟩
    · exact own_nd_cg i (kn i hi) (fc 10 i (by decide) (by decide)) (fc 11 i (by decide) (by decide)) (fd i c) (fun j => fc 1 j (by decide) (by decide)) f17 f18
  · have si := ks i (by omega)
    have ei := ix_int si.1
    rw [fc 13 i (by decide) (by decide), fd _ (fun q => ?_)]
    · exact si
    · have : gI u 13 i = gI u 13 m := (i32_eq).mpr (by omega)
      have := kj i m (by omega) (by omega) this
      omega
  · rw [fc 13 i (by decide) (by decide), fc 13 j (by decide) (by decide)]
    exact kj i j (by omega) (by omega)
  · have e19 := ix_int (i := gI u 0 19) (by omega)
    have m1 : own_M t (ix (gI u 0 19)) = own_M u (ix (gI u 0 19)) + 1 := own_M_up _ (ix (gI u 13 m)) (by omega) (fun i hi c => by rw [fc 10 i (by decide) (by decide), fd i c]) ⟨by rw [fc 10 _ (by decide) (by decide)]; exact x16, by rw [hd]; omega⟩ (fun w => absurd w.2 (by rw [sm.2.2]; decide))
    have s1 : own_S t (ix (gI u 0 21)) = own_S u (ix (gI u 0 21)) := own_S_cg _ (fun i hi => fc 14 i (by decide) (by decide))
    have := km le
    omega
  · rw [fc 14 k (by decide) (by decide)]
    exact ke k hk k64
/-- a node is expanded -/
theorem own_K_exp {u t : St} (K : own_K u) (m Ln : Nat) (hm : (m : Int) + 1 = (gI u 0 22).toInt) (r : Int32) (hr : 0 ≤ r.toInt ∧ r.toInt < (gI u 0 17).toInt ∧ (gI u 1 (ix r)).toInt = (gI u 10 (ix (gI u 13 m))).toInt - 16) (x16 : 16 ≤ (gI u 10 (ix (gI u 13 m))).toInt) (fr : ∀ c j, c ≠ 10 → c ≠ 11 → c ≠ 12 → c ≠ 13 → ¬ (c = 0 ∧ (j = 19 ∨ j = 22)) → gI t c j = gI u c j) (hd : gI t 12 (ix (gI u 13 m)) = r) (old : ∀ i, i < ix (gI u 0 19) → gI t 10 i = gI u 10 i ∧ gI t 11 i = gI u 11 i ∧ (i ≠ ix (gI u 13 m) → gI t 12 i = gI u 12 i)) (new : ∀ j, j < Ln → own_vs (gI t 10 (ix (gI u 0 19) + j)) ∧ gI t 11 (ix (gI u 0 19) + j) = gI u 13 m ∧ gI t 12 (ix (gI u 0 19) + j) = -1) (e19 : (gI t 0 19).toInt = (gI u 0 19).toInt + Ln) (le : (gI t 0 19).toInt ≤ 256) (e22 : (gI t 0 22).toInt = m + Ln) (so : ∀ i, i < m → gI t 13 i = gI u 13 i) (sn : ∀ q : Nat, q < Ln → (gI t 13 (m + q)).toInt = (gI u 0 19).toInt + Ln - 1 - q) : own_K t := by
  obtain ⟨k19, k22, k23, k21, k0, kn, ks, kj, km, ke⟩ := K
  have f0 : ∀ j, j ≠ 19 → j ≠ 22 → gI t 0 j = gI u 0 j := fun j a b => fr 0 j (by decide) (by decide) (by decide) (by decide) (by omega)
  have f18 : gI t 0 18 = gI u 0 18 := f0 18 (by decide) (by decide)
  have f17 : gI t 0 17 = gI u 0 17 := f0 17 (by decide) (by decide)
  have f21 : gI t 0 21 = gI u 0 21 := f0 21 (by decide) (by decide)
  have f23 : gI t 0 23 = gI u 0 23 := f0 23 (by decide) (by decide)
  have f1 : ∀ j, gI t 1 j = gI u 1 j := fun j => fr 1 j (by decide) (by decide) (by decide) (by decide) (by omega)
  have f14 : ∀ j, gI t 14 j = gI u 14 j := fun j => fr 14 j (by decide) (by decide) (by decide) (by decide) (by omega)
  have sm := ks m (by omega)
  have em := ix_int sm.1
  have eN := ix_int (i := gI u 0 19) (by omega)
  have eN' := ix_int (i := gI t 0 19) (by omega)
  have ixN : ix (gI t 0 19) = ix (gI u 0 19) + Ln := by omega
  have o0 := old 0 (by omega)
  generalize ix (gI u 0 19) = N at *
  generalize eb : gI u 13 m = nd at *
  unfold own_K
  rw [f18, f21, f23, ixN]
  refine ⟨by omega, by omega, k23, by omega, ⟨by rw [o0.1]; exact k0.1, by rw [o0.2.1]; exact k0.2⟩, fun i hi => ?_, fun i hi => ?_, fun i j hi hj => ?_, fun le => ?_, fun k hk k64 => by rw [f14]; exact ke k hk k64⟩
  · by_cases c : i < N
    · have o := old i c
      by_cases d : i = ix nd
      · have q := kn i (by omega)
        unfold own_nd at q ⊢
        rw [o.1, o.2.1, f18, f17]
        refine ⟨q.1, q.2.1, fun z => absurd z (by rw [d]; omega), fun _ => Or.inr ?_⟩
        rw [d, hd, f1]; exact hr
      · exact own_nd_cg i (kn i (by omega)) o.1 o.2.1 (o.2.2 d) f1 f17 f18
    · have w := new (i - N) (by omega)
      have z : N + (i - N) = i := by omega
      rw [z] at w
      unfold own_nd
      rw [w.2.1, w.2.2]
      refine ⟨fun _ => by omega, w.1, fun _ => ⟨by decide, ?_⟩, fun _ => Or.inl rfl⟩
      rw [f18]
      have : (-1 : Int32).toInt = -1 := by decide
      rw [this]; omega
  · by_cases c : i < m
    · have si := ks i (by omega)
      have ei := ix_int si.1
      rw [so i c, (old (ix (gI u 13 i)) (by omega)).2.2 (fun q => ?_)]
      · exact ⟨si.1, by omega, si.2.2⟩
      · have : gI u 13 i = gI u 13 m := (i32_eq).mpr (by rw [eb]; omega)
        have := kj i m (by omega) (by omega) this
        omega
    · have w := sn (i - m) (by omega)
      have z : m + (i - m) = i := by omega
      rw [z] at w
      have ei := ix_int (i := gI t 13 i) (by omega)
      have v := new (ix (gI t 13 i) - N) (by omega)
      have y : N + (ix (gI t 13 i) - N) = ix (gI t 13 i) := by omega
      rw [y] at v
      exact ⟨by omega, by omega, v.2.2⟩
  · intro e
    have e' : (gI t 13 i).toInt = (gI t 13 j).toInt := by rw [e]
    by_cases ci : i < m
    · have si := ks i (by omega)
      rw [so i ci] at e e'
      by_cases cj : j < m
      · rw [so j cj] at e
        exact kj i j (by omega) (by omega) e
      · have w := sn (j - m) (by omega)
        have z : m + (j - m) = j := by omega
        rw [z] at w
        omega
    · have wi := sn (i - m) (by omega)
      have zi : m + (i - m) = i := by omega
      rw [zi] at wi
      by_cases cj : j < m
      · have sj := ks j (by omega)
        rw [so j cj] at e'
        omega
      · have w := sn (j - m) (by omega)
        have z : m + (j - m) = j := by omega
        rw [z] at w
        omega
  · have m1 : own_M t (N + Ln) = own_M t N := own_M_more N Ln (fun i a b => by
      have w := new (i - N) (by omega)
      have z : N + (i - N) = i := by omega
      rw [z] at w
      rw [w.2.2]; decide)
    have m2 : own_M t N = own_M u N := own_M_cg N (fun i hi => by
      have o := old i hi
      by_cases d : i = ix nd
      · subst d
        rw [o.1]
        exact ⟨fun q => absurd q.1 (by omega), fun q => absurd q.1 (by omega)⟩
      · rw [o.1, o.2.2 d])
    have s1 : own_S t (ix (gI u 0 21)) = own_S u (ix (gI u 0 21)) := own_S_cg _ (fun i _ => f14 i)
    rw [m1, m2, s1]
    exact km le

/-! counting -/
def own_ct (f : Nat → Bool) : Nat → Nat
  | 0 => 0
  | n + 1 => own_ct f n + (if f n then 1 else 0)
theorem own_ct_cg {f g : Nat → Bool} : ∀ n, (∀ c, c < n → f c = g c) → own_ct f n = own_ct g n
  | 0, _ => rfl
  | n + 1, h => by
    show own_ct f n + (if f n then 1 else 0) = own_ct g n + (if g n then 1 else 0)
    rw [own_ct_cg n fun c hc => h c (by omega), h n (by omega)]
theorem own_ct_up {f g : Nat → Bool} : ∀ n m, m < n → (∀ c, c < n → c ≠ m → f c = g c) → f m = true → g m = false → own_ct f n = own_ct g n + 1
  | 0, m, hm, _, _, _ => by omega
  | n + 1, m, hm, h, a, b => by
    show own_ct f n + (if f n then 1 else 0) = own_ct g n + (if g n then 1 else 0) + 1
    by_cases e : m = n
    · subst e
      rw [own_ct_cg m fun c hc => h c (by omega) (by omega), a, b]; simp
    · rw [own_ct_up n m (by omega) (fun c hc => h c (by omega)) a b, h n (by omega) (fun q => e q.symm)]; omega
theorem own_ct_more {f : Nat → Bool} (n : Nat) : ∀ k, (∀ c, n ≤ c → c < n + k → f c = false) → own_ct f (n + k) = own_ct f n
  | 0, _ => rfl
  | k + 1, h => by
    show own_ct f (n + k) + (if f (n + k) then 1 else 0) = _
    rw [own_ct_more n k fun c a b => h c a (by omega), h (n + k) (by omega) (by omega)]; simp
/-! the tree's walk -/
def own_nf (s : St) (n : Nat) : Nat → Nat → Int
  | 0, _ => -1
  | k + 1, x => if x = 0 then -1 else if x + 1 < n ∧ gI s 11 (x + 1) = gI s 11 x then ((x + 1 : Nat) : Int) else own_nf s n k (ix (gI s 11 x))
def own_nx (s : St) (n x : Nat) : Int := own_nf s n (x + 1) x
def own_pw (s : St) (n : Nat) : Prop := ∀ x, 0 < x → x < n → 0 ≤ (gI s 11 x).toInt ∧ (gI s 11 x).toInt < x
theorem own_nf_f {s : St} {n : Nat} (h : own_pw s n) : ∀ x, x < n → ∀ k, x + 1 ≤ k → own_nf s n k x = own_nx s n x := by
  intro x
  induction x using Nat.strongRecOn with
  | _ x ih =>
  intro hx k hk
  obtain ⟨k', rfl⟩ : ∃ k', k = k' + 1 := ⟨k - 1, by omega⟩
  unfold own_nx
  show (if x = 0 then (-1 : Int) else _) = (if x = 0 then (-1 : Int) else _)
  by_cases z : x = 0
  · rw [if_pos z, if_pos z]
  · rw [if_neg z, if_neg z]
    have p := h x (by omega) hx
    have xp := ix_int p.1
    by_cases c : x + 1 < n ∧ gI s 11 (x + 1) = gI s 11 x
    · rw [if_pos c, if_pos c]
    · rw [if_neg c, if_neg c, ih (ix (gI s 11 x)) (by omega) (by omega) k' (by omega), ih (ix (gI s 11 x)) (by omega) (by omega) x (by omega)]
theorem own_nx_0 (s : St) (n : Nat) : own_nx s n 0 = -1 := rfl
theorem own_nx_s {s : St} {n : Nat} (h : own_pw s n) {x : Nat} (x0 : 0 < x) (hx : x < n) : own_nx s n x = if x + 1 < n ∧ gI s 11 (x + 1) = gI s 11 x then ((x + 1 : Nat) : Int) else own_nx s n (ix (gI s 11 x)) := by
  have p := h x x0 hx
  have xp := ix_int p.1
  have e : own_nx s n x = if x = 0 then (-1 : Int) else if x + 1 < n ∧ gI s 11 (x + 1) = gI s 11 x then ((x + 1 : Nat) : Int) else own_nf s n x (ix (gI s 11 x)) := rfl
  rw [e, if_neg (by omega), own_nf_f h (ix (gI s 11 x)) (by omega) x (by omega)]
/-- the tree grows below a node that had no children -/
def own_gr (u t : St) (n l : Nat) (nd : Int32) : Prop := (∀ j, j < n → gI t 11 j = gI u 11 j) ∧ (∀ j, n ≤ j → j < n + l → gI t 11 j = nd) ∧ (∀ j, j < n → gI u 11 j ≠ nd)
theorem own_nf_g {u t : St} {n l : Nat} {nd : Int32} (g : own_gr u t n l nd) (h : own_pw u n) : ∀ k x, x < n → own_nf t (n + l) k x = own_nf u n k x := by
  intro k
  induction k with
  | zero => exact fun _ _ => rfl
  | succ k ih =>
    intro x hx
    show (if x = 0 then (-1 : Int) else _) = (if x = 0 then (-1 : Int) else _)
    by_cases z : x = 0
    · rw [if_pos z, if_pos z]
    · rw [if_neg z, if_neg z, g.1 x hx]
      have p := h x (by omega) hx
      have xp := ix_int p.1
      rw [ih (ix (gI u 11 x)) (by omega)]
      by_cases c : x + 1 < n
      · rw [g.1 (x + 1) c]
        by_cases d : gI u 11 (x + 1) = gI u 11 x
        · rw [if_pos ⟨by omega, d⟩, if_pos ⟨c, d⟩]
        · rw [if_neg (fun w => d w.2), if_neg (fun w => d w.2)]
      · rw [if_neg (fun w => g.2.2 x hx (by rw [← w.2]; exact g.2.1 (x + 1) (by omega) w.1)), if_neg (fun w => c w.1)]
theorem own_nx_g {u t : St} {n l : Nat} {nd : Int32} (g : own_gr u t n l nd) (h : own_pw u n) {x : Nat} (hx : x < n) : own_nx t (n + l) x = own_nx u n x := own_nf_g g h _ x hx
def own_fc (s : St) (n x y : Nat) : Prop := y < n ∧ (gI s 11 y).toInt = x ∧ ∀ j, j < y → (gI s 11 j).toInt ≠ x
def own_ad (s : St) (n x : Nat) (y : Int) : Prop := (∃ m : Nat, y = m ∧ own_fc s n x m) ∨ ((∀ j, j < n → (gI s 11 j).toInt ≠ x) ∧ own_nx s n x = y)
theorem own_ad_g {u t : St} {n l : Nat} {nd : Int32} (g : own_gr u t n l nd) (h : own_pw u n) {x : Nat} {y : Int} (hx : x < n) (ne : nd.toInt ≠ x) (a : own_ad u n x y) : own_ad t (n + l) x y := by
  rcases a with ⟨m, e, f⟩ | ⟨c, e⟩
  · refine Or.inl ⟨m, e, by have := f.1; omega, by rw [g.1 m f.1]; exact f.2.1, fun j hj => ?_⟩
    rw [g.1 j (by have := f.1; omega)]; exact f.2.2 j hj
  · refine Or.inr ⟨fun j hj => ?_, by rw [own_nx_g g h hx]; exact e⟩
    by_cases l' : j < n
    · rw [g.1 j l']; exact c j l'
    · rw [g.2.1 j (by omega) hj]; exact ne
/-- the order in which nodes were taken from the stack -/
def own_mt (s : St) (i : Nat) : Prop := (gI s 10 i).toInt < 16 ∧ 0 ≤ (gI s 12 i).toInt
def own_mb (s : St) (i : Nat) : Bool := decide ((gI s 10 i).toInt < 16) && decide (0 ≤ (gI s 12 i).toInt)
theorem own_mbt {s : St} {i : Nat} : own_mb s i = true ↔ own_mt s i := by unfold own_mb own_mt; simp
def own_lf (s : St) (o : Nat → Nat) : Nat → Int
  | 0 => -1
  | t + 1 => if own_mb s (o t) then (gI s 12 (o t)).toInt else own_lf s o t
def own_xf (s : St) (o : Nat → Nat) : Nat → Int
  | 0 => 0
  | t + 1 => own_xf s o t + (if own_mb s (o t) then 1 else 0)
theorem own_lf_cg {s u : St} {o q : Nat → Nat} : ∀ n, (∀ t, t < n → o t = q t ∧ gI u 10 (o t) = gI s 10 (o t) ∧ gI u 12 (o t) = gI s 12 (o t)) → own_lf u q n = own_lf s o n ∧ own_xf u q n = own_xf s o n
  | 0, _ => ⟨rfl, rfl⟩
  | n + 1, h => by
    have ih := own_lf_cg n fun t ht => h t (by omega)
    have hn := h n (by omega)
    show (if own_mb u (q n) then (gI u 12 (q n)).toInt else own_lf u q n) = (if own_mb s (o n) then (gI s 12 (o n)).toInt else own_lf s o n) ∧ own_xf u q n + (if own_mb u (q n) then 1 else 0) = own_xf s o n + (if own_mb s (o n) then 1 else 0)
    have e : own_mb u (q n) = own_mb s (o n) := by unfold own_mb; rw [← hn.1, hn.2.1, hn.2.2]
    rw [e, ih.1, ih.2, ← hn.1, hn.2.2]
    exact ⟨rfl, rfl⟩
def own_top (s : St) : Int := if ix (gI s 0 22) = 0 then -1 else (gI s 13 (ix (gI s 0 22) - 1)).toInt
def own_O (s : St) (n z : Nat) : Prop := ∃ o : Nat → Nat, (∀ t, t < n - z → o t < n ∧ ∀ j, j < z → (gI s 13 j).toInt ≠ o t) ∧ (n - z = 0 → own_top s = 0) ∧ (0 < n - z → o 0 = 0 ∧ own_ad s n (o (n - z - 1)) (own_top s)) ∧ (∀ t, t + 1 < n - z → own_ad s n (o t) (o (t + 1))) ∧ (∀ t, t < n - z → own_mt s (o t) → own_lf s o t < (gI s 12 (o t)).toInt) ∧ own_lf s o (n - z) < (gI s 0 23).toInt ∧ (gI s 0 21 = 0 → (∀ t, t < n - z → own_mt s (o t) → (gI s 12 (o t)).toInt = own_xf s o t) ∧ own_xf s o (n - z) = (gI s 0 23).toInt)
/-- what is on the stack, and in what order it comes -/
def own_Y (s : St) (n z : Nat) : Prop := (∀ i, i + 1 < z → own_nx s n (ix (gI s 13 (i + 1))) = (gI s 13 i).toInt) ∧ (0 < z → own_nx s n (ix (gI s 13 0)) = -1)
/-- a node is taken from the stack, its children are laid on it -/
def own_pp (u t : St) (n z l : Nat) : Prop := z + 1 ≤ n + 1 ∧ 1 ≤ z ∧ own_gr u t n l (gI u 13 (z - 1)) ∧ (∀ j, j + 1 < z → gI t 13 j = gI u 13 j) ∧ (∀ q : Nat, q < l → (gI t 13 (z - 1 + q)).toInt = (n : Int) + l - 1 - q) ∧ (∀ x, x < n → gI t 10 x = gI u 10 x) ∧ (∀ x, x < n → x ≠ ix (gI u 13 (z - 1)) → gI t 12 x = gI u 12 x) ∧ ix (gI u 0 22) = z ∧ ix (gI t 0 22) + 1 = z + l ∧ (∀ j, j < z → 0 ≤ (gI u 13 j).toInt ∧ (gI u 13 j).toInt < n) ∧ (∀ i j, i < z → j < z → gI u 13 i = gI u 13 j → i = j)
theorem own_Y_pop {u t : St} {n z l : Nat} (P : own_pp u t n z l) (h : own_pw u n) (h' : own_pw t (n + l)) (Y : own_Y u n z) : own_Y t (n + l) (z - 1 + l) := by
  obtain ⟨zn, z1, g, s13, s13n, d10, d12, hz, hz', sr, sj⟩ := P
  have nd := sr (z - 1) (by omega)
  have xnd := ix_int nd.1
  -- what comes after the node that is taken
  have after : (1 < z → own_nx u n (ix (gI u 13 (z - 1))) = (gI u 13 (z - 2)).toInt) ∧ (z = 1 → own_nx u n (ix (gI u 13 (z - 1))) = -1) := by
    refine ⟨fun a => ?_, fun a => ?_⟩
    · have := Y.1 (z - 2) (by omega)
      have e : z - 2 + 1 = z - 1 := by omega
      rw [e] at this; exact this
    · subst a; exact Y.2 (by omega)
  have old : ∀ j, j + 1 < z → own_nx t (n + l) (ix (gI t 13 j)) = own_nx u n (ix (gI u 13 j)) := fun j hj => by
    have r := sr j (by omega)
    have x := ix_int r.1
    rw [s13 j hj, own_nx_g g h (by omega)]
  -- the children
  have kid : ∀ q : Nat, q < l → ix (gI t 13 (z - 1 + q)) = n + l - 1 - q := fun q hq => by
    have r := s13n q hq
    have x := ix_int (i := gI t 13 (z - 1 + q)) (by omega)
    omega
  have nk : ∀ c : Nat, c < l → own_nx t (n + l) (n + c) = if c + 1 < l then ((n + c + 1 : Nat) : Int) else own_nx u n (ix (gI u 13 (z - 1))) := fun c hc => by
    have n0 : 0 < n := by omega
    rw [own_nx_s h' (by omega) (by omega), g.2.1 (n + c) (by omega) (by omega)]
    by_cases a : c + 1 < l
    · rw [if_pos ⟨by omega, g.2.1 (n + c + 1) (by omega) (by omega)⟩, if_pos a]
    · rw [if_neg (fun w => a (by omega)), if_neg a, own_nx_g g h (by omega)]
  refine ⟨fun i hi => ?_, fun hp => ?_⟩
  · by_cases a : i + 2 < z
    · rw [old (i + 1) (by omega), s13 i (by omega)]
      exact Y.1 i (by omega)
    · by_cases b : i + 2 = z
      · -- the last child stands on the old one
        have l1 : 1 ≤ l := by omega
        have k0 := kid 0 (by omega)
        have e : i + 1 = z - 1 + 0 := by omega
        rw [e, k0]
        have e2 : n + l - 1 - 0 = n + (l - 1) := by omega
        rw [e2, nk (l - 1) (by omega), if_neg (by omega), s13 i (by omega), after.1 (by omega)]
        have e3 : z - 2 = i := by omega
        rw [e3]
      · obtain ⟨q, hq⟩ : ∃ q, i = z - 1 + q := ⟨i - (z - 1), by omega⟩
        subst hq
        have e : z - 1 + q + 1 = z - 1 + (q + 1) := by omega
        rw [e, kid (q + 1) (by omega), s13n q (by omega)]
        have e2 : n + l - 1 - (q + 1) = n + (l - 1 - (q + 1)) := by omega
        rw [e2, nk _ (by omega), if_pos (by omega)]
        omega
  · by_cases a : 1 < z
    · rw [old 0 (by omega)]
      exact Y.2 (by omega)
    · have zz : z = 1 := by omega
      subst zz
      have k0 := kid 0 (by omega)
      have e : (0 : Nat) = 1 - 1 + 0 := rfl
      rw [e, k0]
      have e2 : n + l - 1 - 0 = n + (l - 1) := by omega
      rw [e2, nk (l - 1) (by omega), if_neg (by omega)]
      exact after.2 rfl
theorem own_O_pop {u t : St} {n z l : Nat} (P : own_pp u t n z l) (h : own_pw u n) (h' : own_pw t (n + l)) (Y : own_Y u n z) (O : own_O u n z) (mp : own_mt t (ix (gI u 13 (z - 1))) → gI t 12 (ix (gI u 13 (z - 1))) = gI u 0 23) (hp : (own_mt t (ix (gI u 13 (z - 1))) ∧ (gI t 0 23).toInt = (gI u 0 23).toInt + 1) ∨ (¬ own_mt t (ix (gI u 13 (z - 1))) ∧ gI t 0 23 = gI u 0 23)) (he : gI t 0 21 = 0 → gI u 0 21 = 0) : own_O t (n + l) (z - 1 + l) := by
  have PP := P
  obtain ⟨zn, z1, g, s13, s13n, d10, d12, hz, hz', sr, sj⟩ := P
  obtain ⟨o, o1, o2, o3, o4, o5, o6, o7⟩ := O
  have nd := sr (z - 1) (by omega)
  have xnd := ix_int nd.1
  generalize hx : ix (gI u 13 (z - 1)) = x at *
  have top : own_top u = x := by
    unfold own_top
    rw [hz, if_neg (by omega)]; omega
  have cnt : n + l - (z - 1 + l) = n - z + 1 := by omega
  have q1 : ∀ y, y < n - z → (if y = n - z then x else o y) = o y := fun y hy => by rw [if_neg (by omega)]
  have q2 : (if n - z = n - z then x else o (n - z)) = x := if_pos rfl
  have ox : ∀ y, y < n - z → o y ≠ x := fun y hy w => (o1 y hy).2 (z - 1) (by omega) (by rw [w]; omega)
  have cg := own_lf_cg (s := u) (u := t) (o := o) (q := fun y => if y = n - z then x else o y) (n - z) fun y hy => ⟨(q1 y hy).symm, d10 _ (o1 y hy).1, d12 _ (o1 y hy).1 (ox y hy)⟩
  have cgt : ∀ y, y < n - z → own_lf t (fun y => if y = n - z then x else o y) y = own_lf u o y ∧ own_xf t (fun y => if y = n - z then x else o y) y = own_xf u o y := fun y hy => own_lf_cg y fun w hw => ⟨(q1 w (by omega)).symm, d10 _ (o1 w (by omega)).1, d12 _ (o1 w (by omega)).1 (ox w (by omega))⟩
  have mo : ∀ y, y < n - z → (own_mt t (o y) ↔ own_mt u (o y)) := fun y hy => by unfold own_mt; rw [d10 _ (o1 y hy).1, d12 _ (o1 y hy).1 (ox y hy)]
  have d12o : ∀ y, y < n - z → gI t 12 (o y) = gI u 12 (o y) := fun y hy => d12 _ (o1 y hy).1 (ox y hy)
  have nc : ∀ j, j < n → (gI u 11 j).toInt ≠ x := fun j hj w => g.2.2 j hj ((i32_eq).mpr (by omega))
  have adt : ∀ y (w : Int), y < n → y ≠ x → own_ad u n y w → own_ad t (n + l) y w := fun y w hy ne a => own_ad_g g h hy (by omega) a
  refine ⟨fun y => if y = n - z then x else o y, fun y hy => ?_, fun e => by omega, fun _ => ⟨?_, ?_⟩, fun y hy => ?_, fun y hy m => ?_, ?_, fun e0 => ⟨fun y hy m => ?_, ?_⟩⟩
  · rw [cnt] at hy
    by_cases c : y = n - z
    · simp only [if_pos c]
      refine ⟨by omega, fun j hj => ?_⟩
      by_cases a : j + 1 < z
      · rw [s13 j a]
        intro w
        have := sj j (z - 1) (by omega) (by omega) ((i32_eq).mpr (by omega))
        omega
      · obtain ⟨q, rfl⟩ : ∃ q, j = z - 1 + q := ⟨j - (z - 1), by omega⟩
        rw [s13n q (by omega)]; omega
    · simp only [if_neg c]
      have oy := o1 y (by omega)
      refine ⟨by omega, fun j hj => ?_⟩
      by_cases a : j + 1 < z
      · rw [s13 j a]; exact oy.2 j (by omega)
      · obtain ⟨q, rfl⟩ : ∃ q, j = z - 1 + q := ⟨j - (z - 1), by omega⟩
        rw [s13n q (by omega)]; omega
  · by_cases c : 0 = n - z
    · simp only [if_pos c]
      have := o2 (by omega)
      rw [top] at this; omega
    · simp only [if_neg c]
      exact (o3 (by omega)).1
  · rw [cnt]
    have e : n - z + 1 - 1 = n - z := by omega
    rw [e]
    simp only [if_pos]
    by_cases l0 : l = 0
    · subst l0
      refine Or.inr ⟨fun j hj => by rw [g.1 j (by omega)]; exact nc j (by omega), ?_⟩
      rw [own_nx_g g h (by omega)]
      unfold own_top
      by_cases a : 1 < z
      · rw [if_neg (by omega)]
        have e1 : ix (gI t 0 22) - 1 = z - 2 := by omega
        rw [e1, s13 (z - 2) (by omega)]
        have := Y.1 (z - 2) (by omega)
        have e2 : z - 2 + 1 = z - 1 := by omega
        rw [e2, hx] at this; exact this
      · rw [if_pos (by omega)]
        have zz : z = 1 := by omega
        subst zz
        have := Y.2 (by omega)
        have hx' : ix (gI u 13 0) = x := hx
        rw [hx'] at this; exact this
    · refine Or.inl ⟨n, ?_, by omega, by rw [g.2.1 n (by omega) (by omega)]; omega, fun j hj => by rw [g.1 j hj]; exact nc j hj⟩
      unfold own_top
      rw [if_neg (by omega)]
      have e1 : ix (gI t 0 22) - 1 = z - 1 + (l - 1) := by omega
      rw [e1, s13n (l - 1) (by omega)]; omega
  · rw [cnt] at hy
    by_cases c : y + 1 = n - z
    · have a := (o3 (by omega)).2
      rw [top] at a
      have e : n - z - 1 = y := by omega
      rw [e] at a
      simp only [if_pos c, if_neg (show ¬ y = n - z by omega)]
      exact adt _ _ (o1 y (by omega)).1 (ox y (by omega)) a
    · simp only [if_neg c, if_neg (show ¬ y = n - z by omega)]
      exact adt _ _ (o1 y (by omega)).1 (ox y (by omega)) (o4 y (by omega))
  · rw [cnt] at hy
    by_cases c : y = n - z
    · subst c
      simp only [if_pos] at m ⊢
      rw [cg.1, mp m]; exact o6
    · simp only [if_neg c] at m ⊢
      rw [(cgt y (by omega)).1, d12o y (by omega)]
      exact o5 y (by omega) ((mo y (by omega)).mp m)
  · rw [cnt]
    show (if own_mb t (if n - z = n - z then x else o (n - z)) then (gI t 12 (if n - z = n - z then x else o (n - z))).toInt else own_lf t _ (n - z)) < _
    rw [q2]
    rcases hp with w | w
    · rw [if_pos (own_mbt.mpr w.1), mp w.1, w.2]; omega
    · rw [if_neg (fun v => w.1 (own_mbt.mp v)), w.2, cg.1]; exact o6
  · rw [cnt] at hy
    have oo := o7 (he e0)
    by_cases c : y = n - z
    · subst c
      simp only [if_pos] at m ⊢
      rw [mp m, cg.2, oo.2]
    · simp only [if_neg c] at m ⊢
      rw [(cgt y (by omega)).2, d12o y (by omega)]
      exact oo.1 y (by omega) ((mo y (by omega)).mp m)
  · have oo := o7 (he e0)
    rw [cnt]
    show own_xf t _ (n - z) + (if own_mb t (if n - z = n - z then x else o (n - z)) then 1 else 0) = _
    rw [q2, cg.2, oo.2]
    rcases hp with w | w
    · rw [if_pos (own_mbt.mpr w.1), w.2]
    · rw [if_neg (fun v => w.1 (own_mbt.mp v)), w.2]; omega
/-- nothing of the tree changes -/
theorem own_nf_cg {s t : St} {n : Nat} (h : ∀ j, gI t 11 j = gI s 11 j) : ∀ k x, own_nf t n k x = own_nf s n k x := by
  intro k
  induction k with
  | zero => exact fun _ => rfl
  | succ k ih =>
    intro x
    show (if x = 0 then (-1 : Int) else if x + 1 < n ∧ gI t 11 (x + 1) = gI t 11 x then ((x + 1 : Nat) : Int) else own_nf t n k (ix (gI t 11 x))) = (if x = 0 then (-1 : Int) else if x + 1 < n ∧ gI s 11 (x + 1) = gI s 11 x then ((x + 1 : Nat) : Int) else own_nf s n k (ix (gI s 11 x)))
    rw [h, h, ih]
theorem own_nx_cg {s t : St} {n : Nat} (h : ∀ j, gI t 11 j = gI s 11 j) (x : Nat) : own_nx t n x = own_nx s n x := own_nf_cg h _ x
theorem own_O_sk {s t : St} {n z : Nat} (O : own_O s n z) (hz : gI t 0 22 = gI s 0 22) (h : ∀ c j, c = 10 ∨ c = 11 ∨ c = 12 ∨ c = 13 → gI t c j = gI s c j) (hp : (gI s 0 23).toInt ≤ (gI t 0 23).toInt) (he : gI t 0 21 ≠ 0) : own_O t n z := by
  obtain ⟨o, o1, o2, o3, o4, o5, o6, o7⟩ := O
  have top : own_top t = own_top s := by unfold own_top; rw [hz, h 13 _ (by decide)]
  have ad : ∀ x y, own_ad s n x y → own_ad t n x y := fun x y a => by
    rcases a with ⟨m, e, f⟩ | ⟨c, e⟩
    · exact Or.inl ⟨m, e, f.1, by rw [h 11 _ (by decide)]; exact f.2.1, fun j hj => by rw [h 11 _ (by decide)]; exact f.2.2 j hj⟩
    · exact Or.inr ⟨fun j hj => by rw [h 11 _ (by decide)]; exact c j hj, by rw [own_nx_cg (fun j => h 11 j (by decide))]; exact e⟩
  have lf : ∀ y, own_lf t o y = own_lf s o y := fun y => (own_lf_cg y fun w _ => ⟨rfl, h 10 _ (by decide), h 12 _ (by decide)⟩).1
  refine ⟨o, fun y hy => ⟨(o1 y hy).1, fun j hj => by rw [h 13 _ (by decide)]; exact (o1 y hy).2 j hj⟩, fun e => by rw [top]; exact o2 e, fun e => ⟨(o3 e).1, by rw [top]; exact ad _ _ (o3 e).2⟩, fun y hy => ad _ _ (o4 y hy), fun y hy m => ?_, by rw [lf]; omega, fun e => absurd e he⟩
  unfold own_mt at m
  rw [h 10 _ (by decide), h 12 _ (by decide)] at m
  rw [lf, h 12 _ (by decide)]; exact o5 y hy m

/-! children, counts -/
def own_ex (s : St) (i : Nat) : Prop := 16 ≤ (gI s 10 i).toInt ∧ 0 ≤ (gI s 12 i).toInt
def own_cd (s : St) (n i : Nat) : Prop := (own_ex s i → ∃ b, i < b ∧ b + ix (gI s 2 (ix (gI s 12 i))) ≤ n ∧ (∀ j, j < n → ((gI s 11 j).toInt = i ↔ b ≤ j ∧ j < b + ix (gI s 2 (ix (gI s 12 i))))) ∧ ∀ c, c < ix (gI s 2 (ix (gI s 12 i))) → gI s 10 (b + c) = gI s 3 (ix (gI s 12 i) * 6 + c)) ∧ (¬ own_ex s i → ∀ j, j < n → (gI s 11 j).toInt ≠ i)
def own_nb (s : St) (p i : Nat) : Bool := decide ((gI s 10 i).toInt < 16) && (gI s 12 i == Int32.ofNat p)
def own_eb (s : St) (p k : Nat) : Bool := (Jvm.Free.XT.ushr (gI s 14 k) 16 == 2) && ((Jvm.Free.XT.ushr (gI s 14 k) 8 &&& 255) == Int32.ofNat p)
def own_er (s : St) (k : Nat) : Prop := Jvm.Free.XT.ushr (gI s 14 k) 16 = 2 → ∀ p : Nat, p < 32 → (Jvm.Free.XT.ushr (gI s 14 k) 8 &&& 255) = Int32.ofNat p → gI s 14 k &&& 255 = gI s 9 p
def own_X (s : St) : Prop := (∀ i, i < ix (gI s 0 19) → own_cd s (ix (gI s 0 19)) i) ∧ own_Y s (ix (gI s 0 19)) (ix (gI s 0 22)) ∧ own_O s (ix (gI s 0 19)) (ix (gI s 0 22)) ∧ (gI s 0 21 = 0 → ∀ i, i < ix (gI s 0 19) → (∀ j, j < ix (gI s 0 22) → (gI s 13 j).toInt ≠ i) → gI s 12 i ≠ -1) ∧ ((gI s 0 21).toInt ≤ 64 → ∀ p : Nat, p < 32 → own_ct (own_nb s p) (ix (gI s 0 19)) + own_ct (own_eb s p) (ix (gI s 0 21)) = if (p : Int) < (gI s 0 23).toInt then 1 else 0) ∧ (∀ k, k < ix (gI s 0 21) → k < 64 → own_er s k) ∧ (∀ i, i < ix (gI s 0 19) → own_mt s i → gI s 10 i = gI s 9 (ix (gI s 12 i)))
theorem own_ew0 : ∀ k : Fin 4, ∀ p : Fin 33, ∀ x : Fin 20, Jvm.Free.XT.ushr (((Int32.ofNat k.val <<< ((16 : Int32) &&& 31)) ||| (Int32.ofNat p.val <<< ((8 : Int32) &&& 31))) ||| Int32.ofNat x.val) 16 = Int32.ofNat k.val ∧ Jvm.Free.XT.ushr (((Int32.ofNat k.val <<< ((16 : Int32) &&& 31)) ||| (Int32.ofNat p.val <<< ((8 : Int32) &&& 31))) ||| Int32.ofNat x.val) 8 &&& 255 = Int32.ofNat p.val ∧ (((Int32.ofNat k.val <<< ((16 : Int32) &&& 31)) ||| (Int32.ofNat p.val <<< ((8 : Int32) &&& 31))) ||| Int32.ofNat x.val) &&& 255 = Int32.ofNat x.val := by decide +kernel
theorem own_ew {k p x : Int32} (hk : 0 ≤ k.toInt ∧ k.toInt ≤ 3) (hp : 0 ≤ p.toInt ∧ p.toInt ≤ 32) (hx : 0 ≤ x.toInt ∧ x.toInt ≤ 19) : Jvm.Free.XT.ushr (((k <<< ((16 : Int32) &&& 31)) ||| (p <<< ((8 : Int32) &&& 31))) ||| x) 16 = k ∧ Jvm.Free.XT.ushr (((k <<< ((16 : Int32) &&& 31)) ||| (p <<< ((8 : Int32) &&& 31))) ||| x) 8 &&& 255 = p ∧ (((k <<< ((16 : Int32) &&& 31)) ||| (p <<< ((8 : Int32) &&& 31))) ||| x) &&& 255 = x := by
  have e1 := ix_int hk.1
  have e2 := ix_int hp.1
  have e3 := ix_int hx.1
  have := own_ew0 ⟨ix k, by omega⟩ ⟨ix p, by omega⟩ ⟨ix x, by omega⟩
  simp only at this
  rw [← own_n32 (i := k) (k := ix k) (by omega), ← own_n32 (i := p) (k := ix p) (by omega), ← own_n32 (i := x) (k := ix x) (by omega)] at this
  exact this
theorem own_pof {x : Int32} {p : Nat} (hx : 0 ≤ x.toInt) (hp : p < 1000) : x = Int32.ofNat p ↔ x.toInt = p := by
  constructor
  · intro e; rw [e]; exact Int32.toInt_ofNat_of_lt (by omega)
  · exact own_n32
theorem own_pwK {s : St} (K : own_K s) : own_pw s (ix (gI s 0 19)) := fun x x0 hx => by
  have e := ix_int (i := gI s 0 19) (by have := K.1; omega)
  exact (K.2.2.2.2.2.1 x (by omega)).1 x0
/-- a node on the stack has no children yet -/
theorem own_noc {s : St} (K : own_K s) (X : own_X s) {m : Nat} (hm : (m : Int) < (gI s 0 22).toInt) : ∀ j, j < ix (gI s 0 19) → gI s 11 j ≠ gI s 13 m := fun j hj w => by
  have sm := K.2.2.2.2.2.2.1 m hm
  have e := ix_int (i := gI s 0 19) (by have := K.1; omega)
  have em := ix_int sm.1
  have c := (X.1 (ix (gI s 13 m)) (by omega)).2 (fun q => absurd q.2 (by rw [sm.2.2]; decide)) j hj
  exact c (by rw [w]; omega)
theorem own_pp0 {u t : St} (K : own_K u) (X : own_X u) {m : Nat} (hm : (m : Int) + 1 = (gI u 0 22).toInt) (h10 : ∀ j, gI t 10 j = gI u 10 j) (h11 : ∀ j, gI t 11 j = gI u 11 j) (h13 : ∀ j, gI t 13 j = gI u 13 j) (h12 : ∀ j, j ≠ ix (gI u 13 m) → gI t 12 j = gI u 12 j) (e22 : (gI t 0 22).toInt = (gI u 0 22).toInt - 1) : own_pp u t (ix (gI u 0 19)) (ix (gI u 0 22)) 0 := by
  obtain ⟨k19, k22, k23, k21, k0, kn, ks, kj, km, ke⟩ := id K
  have eN := ix_int (i := gI u 0 19) (by omega)
  have eZ := ix_int (i := gI u 0 22) (by omega)
  have eZ' := ix_int (i := gI t 0 22) (by omega)
  have zm : ix (gI u 0 22) - 1 = m := by omega
  refine ⟨by omega, by omega, ⟨fun j _ => h11 j, fun j a b => by omega, fun j hj => ?_⟩, fun j _ => h13 j, fun q hq => by omega, fun x _ => h10 x, fun x _ ne => h12 x (by rw [zm] at ne; exact ne), rfl, by omega, fun j hj => ?_, fun i j hi hj e => kj i j (by omega) (by omega) e⟩
  · rw [zm]; exact own_noc K X (by omega) j hj
  · have := ks j (by omega)
    exact ⟨this.1, by omega⟩
theorem own_X_rec {u t : St} (w k : Int32) (K : own_K u) (Kt : own_K t) (X : own_X u) (T32 : (gI u 0 18).toInt ≤ 32) (fr : ∀ c j, c ≠ 14 → ¬ (c = 0 ∧ (j = 21 ∨ j = 22 ∨ j = 23)) → gI t c j = gI u c j) (e1 : gI t 0 21 = gI u 0 21 + 1) (er : ∀ k, k ≠ ix (gI u 0 21) → gI t 14 k = gI u 14 k) (ew : (gI u 0 21).toInt < 64 → gI t 14 (ix (gI u 0 21)) = w) (hw : Jvm.Free.XT.ushr w 16 = k) (hk : 1 ≤ k.toInt ∧ k.toInt ≤ 3) (h2 : k = 2 → (Jvm.Free.XT.ushr w 8 &&& 255) = gI u 0 23 ∧ w &&& 255 = gI u 9 (ix (gI u 0 23)))
    (h : (k = 2 ∧ gI t 0 22 = gI u 0 22 ∧ (gI t 0 23).toInt = (gI u 0 23).toInt + 1 ∧ (gI u 0 23).toInt < (gI u 0 18).toInt) ∨ (k ≠ 2 ∧ 1 ≤ (gI u 0 22).toInt ∧ (gI t 0 22).toInt = (gI u 0 22).toInt - 1 ∧ gI t 0 23 = gI u 0 23)) : own_X t := by
  have pw := own_pwK K
  have pwt := own_pwK Kt
  obtain ⟨k19, k22, k23, k21, k0, kn, ks, kj, km, ke⟩ := id K
  obtain ⟨x1, x2, x3, x4, x5, x6, x7⟩ := id X
  have f19 : gI t 0 19 = gI u 0 19 := fr 0 19 (by decide) (by decide)
  have fc : ∀ c j, c ≠ 14 → c ≠ 0 → gI t c j = gI u c j := fun c j a b => fr c j a (fun q => b q.1)
  have ex := own_ixu (x := gI u 0 21) ⟨k21.1, by omega⟩
  have ei := ix_int k21.1
  have nz : gI t 0 21 ≠ 0 := fun z => by
    have : (gI t 0 21).toInt = 0 := by rw [z]; decide
    rw [e1, ex.1] at this; omega
  have mte : ∀ i, own_mt t i ↔ own_mt u i := fun i => by unfold own_mt; rw [fc 10 i (by decide) (by decide), fc 12 i (by decide) (by decide)]
  rw [f19] at pwt
  unfold own_X
  rw [f19, e1, ex.1, ex.2]
  refine ⟨fun i hi => ?_, ?_, ?_, fun z => absurd z (by rw [← e1]; exact nz), fun le p hp => ?_, fun q hq q64 => ?_, fun i hi m => ?_⟩
  · have c := x1 i hi
    unfold own_cd own_ex at c ⊢
    simp only [fc 10 _ (show (10 : Nat) ≠ 14 by decide) (by decide), fc 11 _ (show (11 : Nat) ≠ 14 by decide) (by decide), fc 12 _ (show (12 : Nat) ≠ 14 by decide) (by decide), fc 2 _ (show (2 : Nat) ≠ 14 by decide) (by decide), fc 3 _ (show (3 : Nat) ≠ 14 by decide) (by decide)]
    exact c
  · rcases h with h | h
    · rw [h.2.1]
      unfold own_Y at x2 ⊢
      simp only [fc 13 _ (show (13 : Nat) ≠ 14 by decide) (by decide), own_nx_cg (s := u) (t := t) (fun j => fc 11 j (by decide) (by decide))]
      exact x2
    · have eZ := ix_int (i := gI u 0 22) (by omega)
      have eZ' := ix_int (i := gI t 0 22) (by omega)
      have P := own_pp0 (t := t) K X (m := ix (gI u 0 22) - 1) (by omega) (fun j => fc 10 j (by decide) (by decide)) (fun j => fc 11 j (by decide) (by decide)) (fun j => fc 13 j (by decide) (by decide)) (fun j _ => fc 12 j (by decide) (by decide)) h.2.2.1
      have := own_Y_pop P pw pwt x2
      have e : ix (gI u 0 22) - 1 + 0 = ix (gI t 0 22) := by omega
      rw [e] at this
      exact this
  · rcases h with h | h
    · have := own_O_sk (t := t) x3 h.2.1 (fun c j hc => fc c j (by omega) (by omega)) (by omega) nz
      rw [h.2.1]; exact this
    · have eZ := ix_int (i := gI u 0 22) (by omega)
      have eZ' := ix_int (i := gI t 0 22) (by omega)
      have P := own_pp0 (t := t) K X (m := ix (gI u 0 22) - 1) (by omega) (fun j => fc 10 j (by decide) (by decide)) (fun j => fc 11 j (by decide) (by decide)) (fun j => fc 13 j (by decide) (by decide)) (fun j _ => fc 12 j (by decide) (by decide)) h.2.2.1
      have sm := ks (ix (gI u 0 22) - 1) (by omega)
      have nm : ¬ own_mt t (ix (gI u 13 (ix (gI u 0 22) - 1))) := fun q => by
        have := ((mte _).mp q).2
        rw [sm.2.2] at this
        exact absurd this (by decide)
      have := own_O_pop P pw pwt x2 x3 (fun q => absurd q nm) (Or.inr ⟨nm, h.2.2.2⟩) (fun z => absurd z nz)
      have e : ix (gI u 0 22) - 1 + 0 = ix (gI t 0 22) := by omega
      rw [e] at this
      exact this
  · have o := x5 (by omega) p hp
    have n1 : own_ct (own_nb t p) (ix (gI u 0 19)) = own_ct (own_nb u p) (ix (gI u 0 19)) := own_ct_cg _ fun c _ => by unfold own_nb; rw [fc 10 c (by decide) (by decide), fc 12 c (by decide) (by decide)]
    have n2 : own_ct (own_eb t p) (ix (gI u 0 21)) = own_ct (own_eb u p) (ix (gI u 0 21)) := own_ct_cg _ fun c hc => by unfold own_eb; rw [er c (by omega)]
    show own_ct (own_nb t p) (ix (gI u 0 19)) + (own_ct (own_eb t p) (ix (gI u 0 21)) + (if own_eb t p (ix (gI u 0 21)) then 1 else 0)) = _
    rw [n1, n2]
    have eb : own_eb t p (ix (gI u 0 21)) = (k == 2 && (Jvm.Free.XT.ushr w 8 &&& 255) == Int32.ofNat p) := by unfold own_eb; rw [ew (by omega), hw]
    rw [eb]
    rcases h with h | h
    · have hp2 := h2 h.1
      have pq := own_pof (x := gI u 0 23) (p := p) k23.1 (by omega)
      rw [hp2.1, h.1, h.2.2.1]
      by_cases c : (gI u 0 23).toInt = p
      · have c2 := pq.mpr c
        rw [if_neg (by omega)] at o
        have cb : ((2 : Int32) == 2 && gI u 0 23 == Int32.ofNat p) = true := by simp [c2]
        have ca : (p : Int) < (gI u 0 23).toInt + 1 := by omega
        rw [if_pos cb, if_pos ca]; omega
      · have c2 : ¬ gI u 0 23 = Int32.ofNat p := fun q => c (pq.mp q)
        rw [if_neg (show ¬ ((2 : Int32) == 2 && gI u 0 23 == Int32.ofNat p) = true by simp [c2])]
        by_cases d : (p : Int) < (gI u 0 23).toInt
        · rw [if_pos d] at o
          rw [if_pos (by omega)]; omega
        · rw [if_neg d] at o
          rw [if_neg (by omega)]; omega
    · have c2 : (k == 2) = false := by simp [h.1]
      rw [c2, h.2.2.2]
      simp only [Bool.false_and]
      rw [if_neg (by decide)]
      exact o
  · by_cases c : q = ix (gI u 0 21)
    · subst c
      intro a p hp b
      rw [ew (by omega)] at a b ⊢
      rw [fc 9 p (by decide) (by decide)]
      have k2 : k = 2 := by rw [← hw]; exact a
      have hh := h2 k2
      rw [hh.1] at b
      have pq := (own_pof (x := gI u 0 23) (p := p) k23.1 (by omega)).mp b
      have ep := ix_int k23.1
      have e : ix (gI u 0 23) = p := by omega
      rw [hh.2, e]
    · have o := x6 q (by omega) q64
      unfold own_er at o ⊢
      simp only [er q c, fc 9 _ (show (9 : Nat) ≠ 14 by decide) (by decide)]
      exact o
  · rw [fc 10 i (by decide) (by decide), fc 12 i (by decide) (by decide), fc 9 _ (by decide) (by decide)]
    exact x7 i hi ((mte i).mp m)
theorem own_X_mat {u t : St} (K : own_K u) (Kt : own_K t) (X : own_X u) (T32 : (gI u 0 18).toInt ≤ 32) (m : Nat) (hm : (m : Int) + 1 = (gI u 0 22).toInt) (fr : ∀ c j, ¬ (c = 12 ∧ j = ix (gI u 13 m)) → ¬ (c = 0 ∧ (j = 22 ∨ j = 23)) → gI t c j = gI u c j) (hd : gI t 12 (ix (gI u 13 m)) = gI u 0 23) (x16 : (gI u 10 (ix (gI u 13 m))).toInt < 16) (lt : (gI u 0 23).toInt < (gI u 0 18).toInt) (e22 : (gI t 0 22).toInt = (gI u 0 22).toInt - 1) (e23 : (gI t 0 23).toInt = (gI u 0 23).toInt + 1) (la : gI u 10 (ix (gI u 13 m)) = gI u 9 (ix (gI u 0 23))) : own_X t := by
  have pw := own_pwK K
  have pwt := own_pwK Kt
  obtain ⟨k19, k22, k23, k21, k0, kn, ks, kj, km, ke⟩ := id K
  obtain ⟨x1, x2, x3, x4, x5, x6, x7⟩ := id X
  have f0 : ∀ j, j ≠ 22 → j ≠ 23 → gI t 0 j = gI u 0 j := fun j a b => fr 0 j (fun q => absurd q.1 (by decide)) (by omega)
  have f19 : gI t 0 19 = gI u 0 19 := f0 19 (by decide) (by decide)
  have f21 : gI t 0 21 = gI u 0 21 := f0 21 (by decide) (by decide)
  have fc : ∀ c j, c ≠ 12 → c ≠ 0 → gI t c j = gI u c j := fun c j a b => fr c j (fun q => a q.1) (fun q => b q.1)
  have fd : ∀ j, j ≠ ix (gI u 13 m) → gI t 12 j = gI u 12 j := fun j a => fr 12 j (fun q => a q.2) (fun q => absurd q.1 (by decide))
  have sm := ks m (by omega)
  have em := ix_int sm.1
  have eN := ix_int (i := gI u 0 19) (by omega)
  have eZ := ix_int (i := gI u 0 22) (by omega)
  have eZ' := ix_int (i := gI t 0 22) (by omega)
  have zm : ix (gI u 0 22) - 1 = m := by omega
  have P := own_pp0 (t := t) K X hm (fun j => fc 10 j (by decide) (by decide)) (fun j => fc 11 j (by decide) (by decide)) (fun j => fc 13 j (by decide) (by decide)) fd e22
  rw [f19] at pwt
  have mt : own_mt t (ix (gI u 13 m)) := ⟨by rw [fc 10 _ (by decide) (by decide)]; exact x16, by rw [hd]; exact k23.1⟩
  have e : ix (gI u 0 22) - 1 + 0 = ix (gI t 0 22) := by omega
  unfold own_X
  rw [f19, f21]
  refine ⟨fun i hi => ?_, ?_, ?_, fun z i hi ns => ?_, fun le p hp => ?_, fun q hq q64 => ?_, fun i hi w => ?_⟩
  · have c := x1 i hi
    by_cases en : i = ix (gI u 13 m)
    · refine ⟨fun q => absurd q.1 (by rw [fc 10 i (by decide) (by decide), en]; omega), fun _ j hj => ?_⟩
      rw [fc 11 j (by decide) (by decide)]
      exact c.2 (fun q => absurd q.1 (by rw [en]; omega)) j hj
    · unfold own_cd own_ex at c ⊢
      rw [fd i en]
      simp only [fc 10 _ (show (10 : Nat) ≠ 12 by decide) (by decide), fc 11 _ (show (11 : Nat) ≠ 12 by decide) (by decide), fc 2 _ (show (2 : Nat) ≠ 12 by decide) (by decide), fc 3 _ (show (3 : Nat) ≠ 12 by decide) (by decide)]
      exact c
  · have := own_Y_pop P pw pwt x2
    rw [e] at this; exact this
  · have := own_O_pop P pw pwt x2 x3 (fun _ => by rw [zm]; exact hd) (Or.inl ⟨by rw [zm]; exact mt, e23⟩) (fun z => by rw [← f21]; exact z)
    rw [e] at this; exact this
  · by_cases en : i = ix (gI u 13 m)
    · rw [en, hd]
      intro q
      have : (gI u 0 23).toInt = -1 := by rw [q]; decide
      omega
    · rw [fd i en]
      refine x4 z i hi fun j hj => ?_
      by_cases c : j = m
      · subst c; omega
      · have := ns j (by omega)
        rw [fc 13 j (by decide) (by decide)] at this
        exact this
  · have o := x5 le p hp
    have n2 : own_ct (own_eb t p) (ix (gI u 0 21)) = own_ct (own_eb u p) (ix (gI u 0 21)) := own_ct_cg _ fun c hc => by unfold own_eb; rw [fc 14 c (by decide) (by decide)]
    rw [n2, e23]
    have pq := own_pof (x := gI u 0 23) (p := p) k23.1 (by omega)
    have bn : own_nb u p (ix (gI u 13 m)) = false := by
      have : (-1 : Int32) ≠ Int32.ofNat p := fun q => by
        have a : (-1 : Int32).toInt = (Int32.ofNat p).toInt := by rw [q]
        rw [Int32.toInt_ofNat_of_lt (by omega)] at a
        have b : (-1 : Int32).toInt = -1 := by decide
        omega
      unfold own_nb
      rw [sm.2.2]
      simp [this]
    by_cases c : (gI u 0 23).toInt = p
    · have c2 := pq.mpr c
      have n1 : own_ct (own_nb t p) (ix (gI u 0 19)) = own_ct (own_nb u p) (ix (gI u 0 19)) + 1 := own_ct_up _ (ix (gI u 13 m)) (by omega) (fun c _ ne => by unfold own_nb; rw [fc 10 c (by decide) (by decide), fd c ne]) (by unfold own_nb; rw [fc 10 _ (by decide) (by decide), hd, c2]; simp [x16]) bn
      rw [n1]
      rw [if_neg (by omega)] at o
      rw [if_pos (by omega)]; omega
    · have c2 : ¬ gI u 0 23 = Int32.ofNat p := fun q => c (pq.mp q)
      have n1 : own_ct (own_nb t p) (ix (gI u 0 19)) = own_ct (own_nb u p) (ix (gI u 0 19)) := own_ct_cg _ fun c _ => by
        by_cases ne : c = ix (gI u 13 m)
        · rw [ne, bn]
          unfold own_nb
          rw [hd]; simp [c2]
        · unfold own_nb; rw [fc 10 c (by decide) (by decide), fd c ne]
      rw [n1]
      by_cases d : (p : Int) < (gI u 0 23).toInt
      · rw [if_pos d] at o
        rw [if_pos (by omega)]; omega
      · rw [if_neg d] at o
        rw [if_neg (by omega)]; omega
  · have o := x6 q hq q64
    unfold own_er at o ⊢
    simp only [fc 14 _ (show (14 : Nat) ≠ 12 by decide) (by decide), fc 9 _ (show (9 : Nat) ≠ 12 by decide) (by decide)]
    exact o
  · rw [fc 10 i (by decide) (by decide), fc 9 _ (by decide) (by decide)]
    by_cases en : i = ix (gI u 13 m)
    · rw [en, hd]; exact la
    · rw [fd i en]
      unfold own_mt at w
      rw [fc 10 i (by decide) (by decide), fd i en] at w
      exact x7 i hi w
theorem own_X_exp {u t : St} (K : own_K u) (Kt : own_K t) (X : own_X u) (m : Nat) (hm : (m : Int) + 1 = (gI u 0 22).toInt) (r : Int32) (hr : 0 ≤ r.toInt) (x16 : 16 ≤ (gI u 10 (ix (gI u 13 m))).toInt) (fr : ∀ c j, c ≠ 10 → c ≠ 11 → c ≠ 12 → c ≠ 13 → ¬ (c = 0 ∧ (j = 19 ∨ j = 22)) → gI t c j = gI u c j) (hd : gI t 12 (ix (gI u 13 m)) = r) (old : ∀ i, i < ix (gI u 0 19) → gI t 10 i = gI u 10 i ∧ gI t 11 i = gI u 11 i ∧ (i ≠ ix (gI u 13 m) → gI t 12 i = gI u 12 i)) (new : ∀ j, j < ix (gI u 2 (ix r)) → gI t 10 (ix (gI u 0 19) + j) = gI u 3 (ix r * 6 + j) ∧ gI t 11 (ix (gI u 0 19) + j) = gI u 13 m ∧ gI t 12 (ix (gI u 0 19) + j) = -1) (e19 : (gI t 0 19).toInt = (gI u 0 19).toInt + ix (gI u 2 (ix r))) (e22 : (gI t 0 22).toInt = m + ix (gI u 2 (ix r))) (so : ∀ i, i < m → gI t 13 i = gI u 13 i) (sn : ∀ q : Nat, q < ix (gI u 2 (ix r)) → (gI t 13 (m + q)).toInt = (gI u 0 19).toInt + ix (gI u 2 (ix r)) - 1 - q) : own_X t := by
  have pw := own_pwK K
  have pwt := own_pwK Kt
  have noc := own_noc K X (m := m) (by omega)
  obtain ⟨k19, k22, k23, k21, k0, kn, ks, kj, km, ke⟩ := id K
  obtain ⟨x1, x2, x3, x4, x5, x6, x7⟩ := id X
  have f0 : ∀ j, j ≠ 19 → j ≠ 22 → gI t 0 j = gI u 0 j := fun j a b => fr 0 j (by decide) (by decide) (by decide) (by decide) (by omega)
  have f21 : gI t 0 21 = gI u 0 21 := f0 21 (by decide) (by decide)
  have f23 : gI t 0 23 = gI u 0 23 := f0 23 (by decide) (by decide)
  have fc : ∀ c j, c ≠ 0 → c < 10 ∨ c = 14 → gI t c j = gI u c j := fun c j a b => fr c j (by omega) (by omega) (by omega) (by omega) (by omega)
  have sm := ks m (by omega)
  have em := ix_int sm.1
  have eN := ix_int (i := gI u 0 19) (by omega)
  have eN' := ix_int (i := gI t 0 19) (by omega)
  have eZ := ix_int (i := gI u 0 22) (by omega)
  have eZ' := ix_int (i := gI t 0 22) (by omega)
  have er := ix_int hr
  have zm : ix (gI u 0 22) - 1 = m := by omega
  have ixN : ix (gI t 0 19) = ix (gI u 0 19) + ix (gI u 2 (ix r)) := by omega
  have ixZ : ix (gI t 0 22) = ix (gI u 0 22) - 1 + ix (gI u 2 (ix r)) := by omega
  have noc' : ∀ j, j < ix (gI u 0 19) → (gI u 11 j).toInt ≠ ix (gI u 13 m) := fun j hj w => noc j hj ((i32_eq).mpr (by omega))
  have dn : ∀ j, ix (gI u 0 19) ≤ j → j < ix (gI u 0 19) + ix (gI u 2 (ix r)) → gI t 10 j = gI u 3 (ix r * 6 + (j - ix (gI u 0 19))) ∧ gI t 11 j = gI u 13 m ∧ gI t 12 j = -1 := fun j a b => by
    have := new (j - ix (gI u 0 19)) (by omega)
    have e : ix (gI u 0 19) + (j - ix (gI u 0 19)) = j := by omega
    rw [e] at this; exact this
  have P : own_pp u t (ix (gI u 0 19)) (ix (gI u 0 22)) (ix (gI u 2 (ix r))) := by
    refine ⟨by omega, by omega, ⟨fun j hj => (old j hj).2.1, fun j a b => by rw [zm]; exact (dn j a b).2.1, fun j hj => by rw [zm]; exact noc j hj⟩, fun j hj => so j (by omega), fun q hq => ?_, fun x hx => (old x hx).1, fun x hx ne => (old x hx).2.2 (by rw [zm] at ne; exact ne), rfl, by omega, fun j hj => ?_, fun i j hi hj e => kj i j (by omega) (by omega) e⟩
    · rw [zm, sn q hq]; omega
    · have := ks j (by omega)
      exact ⟨this.1, by omega⟩
  have nm : ¬ own_mt t (ix (gI u 13 m)) := fun q => absurd q.1 (by rw [(old _ (by omega)).1]; omega)
  rw [ixN] at pwt
  unfold own_X
  rw [f21, ixN, ixZ, f23]
  refine ⟨fun i hi => ?_, own_Y_pop P pw pwt x2, own_O_pop P pw pwt x2 x3 (fun q => absurd (by rw [zm] at q; exact q) nm) (Or.inr ⟨by rw [zm]; exact nm, f23⟩) (fun z => by rw [← f21]; exact z), fun z i hi ns => ?_, fun le p hp => ?_, fun q hq q64 => ?_, fun i hi w => ?_⟩
  · by_cases c : i < ix (gI u 0 19)
    · have o := old i c
      by_cases d : i = ix (gI u 13 m)
      · refine ⟨fun _ => ⟨ix (gI u 0 19), c, ?_, fun j hj => ?_, fun q hq => ?_⟩, fun ne => absurd ⟨by rw [o.1, d]; exact x16, by rw [d, hd]; exact hr⟩ ne⟩
        · rw [d, hd, fc 2 _ (by decide) (by decide)]; omega
        · rw [d, hd, fc 2 _ (by decide) (by decide)]
          by_cases l : j < ix (gI u 0 19)
          · rw [(old j l).2.1]
            exact ⟨fun w => absurd w (noc' j l), fun w => by omega⟩
          · rw [(dn j (by omega) hj).2.1]
            exact ⟨fun _ => ⟨by omega, hj⟩, fun _ => by omega⟩
        · rw [d, hd, fc 2 _ (by decide) (by decide)] at hq
          rw [d, hd, fc 3 _ (by decide) (by decide)]
          exact (new q hq).1
      · have oc := x1 i c
        have e12 := o.2.2 d
        refine ⟨fun e => ?_, fun e j hj => ?_⟩
        · unfold own_ex at e
          rw [o.1, e12] at e
          obtain ⟨b, b1, b2, b3, b4⟩ := oc.1 e
          refine ⟨b, b1, ?_, fun j hj => ?_, fun q hq => ?_⟩
          · rw [e12, fc 2 _ (by decide) (by decide)]; omega
          · rw [e12, fc 2 _ (by decide) (by decide)]
            by_cases l : j < ix (gI u 0 19)
            · rw [(old j l).2.1]; exact b3 j l
            · rw [(dn j (by omega) hj).2.1]
              exact ⟨fun w => by omega, fun w => by omega⟩
          · rw [e12, fc 2 _ (by decide) (by decide)] at hq
            rw [e12, fc 3 _ (by decide) (by decide), (old _ (by omega)).1]
            exact b4 q hq
        · unfold own_ex at e
          rw [o.1, e12] at e
          by_cases l : j < ix (gI u 0 19)
          · rw [(old j l).2.1]; exact oc.2 e j l
          · rw [(dn j (by omega) hj).2.1]; omega
    · have w := dn i (by omega) hi
      refine ⟨fun e => absurd e.2 (by rw [w.2.2]; decide), fun _ j hj => ?_⟩
      by_cases l : j < ix (gI u 0 19)
      · rw [(old j l).2.1]
        by_cases z : j = 0
        · rw [z, k0.2]
          have : (-1 : Int32).toInt = -1 := by decide
          omega
        · have := (kn j (by omega)).1 (by omega)
          omega
      · rw [(dn j (by omega) hj).2.1]; omega
  · by_cases c : i < ix (gI u 0 19)
    · by_cases d : i = ix (gI u 13 m)
      · rw [d, hd]
        intro q
        have : r.toInt = -1 := by rw [q]; decide
        omega
      · rw [(old i c).2.2 d]
        refine x4 z i c fun j hj => ?_
        by_cases e : j = m
        · subst e; omega
        · have := ns j (by omega)
          rw [so j (by omega)] at this
          exact this
    · exfalso
      have q := ns (m + (ix (gI u 0 19) + ix (gI u 2 (ix r)) - 1 - i)) (by omega)
      rw [sn _ (by omega)] at q
      omega
  · have o := x5 le p hp
    have n2 : own_ct (own_eb t p) (ix (gI u 0 21)) = own_ct (own_eb u p) (ix (gI u 0 21)) := own_ct_cg _ fun c hc => by unfold own_eb; rw [fc 14 c (by decide) (by decide)]
    have n3 : own_ct (own_nb t p) (ix (gI u 0 19) + ix (gI u 2 (ix r))) = own_ct (own_nb t p) (ix (gI u 0 19)) := own_ct_more _ _ fun c a b => by
      have : (-1 : Int32) ≠ Int32.ofNat p := fun q => by
        have a : (-1 : Int32).toInt = (Int32.ofNat p).toInt := by rw [q]
        rw [Int32.toInt_ofNat_of_lt (by omega)] at a
        have b : (-1 : Int32).toInt = -1 := by decide
        omega
      unfold own_nb
      rw [(dn c a b).2.2]; simp [this]
    have n1 : own_ct (own_nb t p) (ix (gI u 0 19)) = own_ct (own_nb u p) (ix (gI u 0 19)) := own_ct_cg _ fun c hc => by
      have oc := old c hc
      unfold own_nb
      rw [oc.1]
      by_cases d : c = ix (gI u 13 m)
      · have : ¬ (gI u 10 c).toInt < 16 := by rw [d]; omega
        simp [this]
      · rw [oc.2.2 d]
    rw [n3, n2, n1]; exact o
  · have o := x6 q hq q64
    unfold own_er at o ⊢
    simp only [fc 14 _ (show (14 : Nat) ≠ 0 by decide) (by decide), fc 9 _ (show (9 : Nat) ≠ 0 by decide) (by decide)]
    exact o
  · rw [fc 9 _ (by decide) (by decide)]
    by_cases c : i < ix (gI u 0 19)
    · have oc := old i c
      by_cases d : i = ix (gI u 13 m)
      · rw [d] at w; exact absurd w nm
      · unfold own_mt at w
        rw [oc.1, oc.2.2 d] at w ⊢
        exact x7 i c w
    · exact absurd w.2 (by rw [(dn i (by omega) hi).2.2]; decide)

/-! the walk of parse -/
def own_L (b u : St) : Prop := own_Z b u ∧ own_K u ∧ own_X u
def own_f (u : St) : Int := (gI u 0 19).toInt - (gI u 0 22).toInt + (gI u 0 23).toInt
theorem own_d1 {x : Int32} (h : 1 ≤ x.toInt ∧ x.toInt ≤ 256) : (x - 1).toInt = x.toInt - 1 := by rw [i32_sub] <;> simp <;> omega
theorem own_vs0 {x : Int32} (h : own_vs x) : 0 ≤ x.toInt ∧ x.toInt ≤ 19 := by rcases h with h | h <;> omega
theorem own_KX_rec {u t : St} (k p x : Int32) (K : own_K u) (X : own_X u) (T32 : (gI u 0 18).toInt ≤ 32) (fr : ∀ c j, c ≠ 14 → ¬ (c = 0 ∧ (j = 21 ∨ j = 22 ∨ j = 23)) → gI t c j = gI u c j) (e1 : gI t 0 21 = gI u 0 21 + 1) (er : ∀ k, k ≠ ix (gI u 0 21) → gI t 14 k = gI u 14 k) (ew : (gI u 0 21).toInt < 64 → gI t 14 (ix (gI u 0 21)) = ((k <<< ((16 : Int32) &&& 31)) ||| (p <<< ((8 : Int32) &&& 31))) ||| x) (hk : 1 ≤ k.toInt ∧ k.toInt ≤ 3) (hp : p = gI u 0 23) (hx : 0 ≤ x.toInt ∧ x.toInt ≤ 19) (hx2 : k = 2 → x = gI u 9 (ix (gI u 0 23)))
    (h : (k = 2 ∧ gI t 0 22 = gI u 0 22 ∧ (gI t 0 23).toInt = (gI u 0 23).toInt + 1 ∧ (gI u 0 23).toInt < (gI u 0 18).toInt) ∨ (k ≠ 2 ∧ 1 ≤ (gI u 0 22).toInt ∧ (gI t 0 22).toInt = (gI u 0 22).toInt - 1 ∧ gI t 0 23 = gI u 0 23)) : own_K t ∧ own_X t := by
  have k23 := K.2.2.1
  have hp2 : 0 ≤ p.toInt ∧ p.toInt ≤ 32 := by rw [hp]; omega
  have w := own_ew (k := k) (p := p) (x := x) ⟨by omega, hk.2⟩ hp2 hx
  have Kt := own_K_rec _ k K T32 fr e1 er ew (own_ek ⟨by omega, hk.2⟩ hp2 hx) hk h
  exact ⟨Kt, own_X_rec _ k K Kt X T32 fr e1 er ew w.1 hk (fun z => ⟨by rw [w.2.1, hp], by rw [w.2.2]; exact hx2 z⟩) h⟩
/-- matchTerminal -/
theorem own_s26 (b u : St) (A : own_A b) (L : own_L b u) (m : Nat) (hm : (m : Int) + 1 = (gI u 0 22).toInt) (x16 : (gI u 10 (ix (gI u 13 m))).toInt < 16) (Q : St → Prop) (h : ∀ t, own_L b t → own_f u + 1 ≤ own_f t → Q t) : calV PP 26 14 [.ref 0, .int (gI u 13 m), .int (gI u 10 (ix (gI u 13 m)))] u Q := by
  have Au := own_Z_A L.1 A
  have T32 := Au.1.2.2.1
  have K := L.2.1
  obtain ⟨k19, k22, k23, k21, k0, kn, ks, kj, km, ke⟩ := L.2.1
  have sm := ks m (by omega)
  have em := ix_int sm.1
  have nb : inb 256 (gI u 13 m) := ⟨sm.1, by show _ < (256 : Int); omega⟩
  have la := own_la_r u Au k23.1
  have nd := (kn (ix (gI u 13 m)) (by omega)).2.1
  have nd1 : 1 ≤ (gI u 10 (ix (gI u 13 m))).toInt := by rcases nd with q | q <;> omega
  have nd2 := own_vs0 nd
  have d := own_d1 (x := gI u 0 22) ⟨by omega, by omega⟩
  have p1 := own_u1 (x := gI u 0 23) ⟨k23.1, by omega⟩
  apply c26_in
  refine own_s23 u Au k23.1 _ ⟨fun e => ⟨nb, c26_43 _ _ ?_⟩, fun _ => own_s24 u _ _ _ k21.1 _ fun t rc => c26_43 _ _ ?_⟩
  · have lt : (gI u 0 23).toInt < (gI u 0 18).toInt := la.2 (by rw [← e]; omega)
    have e2 : gI (sI (sI u 12 (ix (gI u 13 m)) (gI u 0 23)) 0 23 (gI u 0 23 + 1)) 0 22 = gI u 0 22 := by rw [own_ne (by decide), own_nc (by decide)]
    rw [e2]
    have Zt := own_Z_s (own_Z_s (own_Z_s L.1 12 (ix (gI u 13 m)) (gI u 0 23) (by omega)) 0 23 (gI u 0 23 + 1) (by omega)) 0 22 (gI u 0 22 - 1) (by omega)
    have g22 : gI (sI (sI (sI u 12 (ix (gI u 13 m)) (gI u 0 23)) 0 23 (gI u 0 23 + 1)) 0 22 (gI u 0 22 - 1)) 0 22 = gI u 0 22 - 1 := own_eq
    have g23 : gI (sI (sI (sI u 12 (ix (gI u 13 m)) (gI u 0 23)) 0 23 (gI u 0 23 + 1)) 0 22 (gI u 0 22 - 1)) 0 23 = gI u 0 23 + 1 := by rw [own_ne (by decide), own_eq]
    have g19 : gI (sI (sI (sI u 12 (ix (gI u 13 m)) (gI u 0 23)) 0 23 (gI u 0 23 + 1)) 0 22 (gI u 0 22 - 1)) 0 19 = gI u 0 19 := by rw [own_ne (by decide), own_ne (by decide), own_nc (by decide)]
    have frm : ∀ c j, ¬ (c = 12 ∧ j = ix (gI u 13 m)) → ¬ (c = 0 ∧ (j = 22 ∨ j = 23)) → gI (sI (sI (sI u 12 (ix (gI u 13 m)) (gI u 0 23)) 0 23 (gI u 0 23 + 1)) 0 22 (gI u 0 22 - 1)) c j = gI u c j := fun c j a b => by rw [own_ne (fun q => b ⟨q.1, Or.inl q.2⟩), own_ne (fun q => b ⟨q.1, Or.inr q.2⟩), own_ne a]
    have hdd : gI (sI (sI (sI u 12 (ix (gI u 13 m)) (gI u 0 23)) 0 23 (gI u 0 23 + 1)) 0 22 (gI u 0 22 - 1)) 12 (ix (gI u 13 m)) = gI u 0 23 := by rw [own_nc (by decide), own_nc (by decide), own_eq]
    have Kt := own_K_mat K T32.2 (by omega) m hm frm hdd x16 lt (by rw [g22]; exact d) (by rw [g23]; exact p1)
    have lae : own_la u = gI u 9 (ix (gI u 0 23)) := if_pos lt
    exact h _ ⟨Zt, Kt, own_X_mat K Kt L.2.2 T32.2 m hm frm hdd x16 lt (by rw [g22]; exact d) (by rw [g23]; exact p1) (by rw [e, lae])⟩ (by unfold own_f; rw [g22, g23, g19]; omega)
  · have e2 : gI t 0 22 = gI u 0 22 := rc.1 0 22 (by decide) (by decide)
    rw [e2]
    have g22 : gI (sI t 0 22 (gI u 0 22 - 1)) 0 22 = gI u 0 22 - 1 := own_eq
    have g23 : gI (sI t 0 22 (gI u 0 22 - 1)) 0 23 = gI u 0 23 := by rw [own_ne (by decide)]; exact rc.1 0 23 (by decide) (by decide)
    have g19 : gI (sI t 0 22 (gI u 0 22 - 1)) 0 19 = gI u 0 19 := by rw [own_ne (by decide)]; exact rc.1 0 19 (by decide) (by decide)
    have Zt : own_Z b (sI t 0 22 (gI u 0 22 - 1)) := own_Z_s (fun c j hc hj => by rw [rc.1 c j (by omega) (by omega)]; exact L.1 c j hc hj) 0 22 _ (by omega)
    refine h _ ⟨Zt, own_KX_rec 1 _ _ K L.2.2 T32.2 (fun c j a b => ?_) (by rw [own_ne (by decide)]; exact rc.2.1) (fun k hk => by rw [own_nc (by decide)]; exact rc.2.2.1 k hk) (fun q => by rw [own_nc (by decide)]; exact rc.2.2.2 q) (by decide) rfl nd2 (fun z => absurd z (by decide)) (Or.inr ⟨by decide, by omega, by rw [g22]; exact d, g23⟩)⟩ (by unfold own_f; rw [g22, g23, g19]; omega)
    rw [own_ne (by omega)]
    exact rc.1 c j a (by omega)
/-- push -/
theorem own_s29 (s : St) (n : Int32) (y22 : 0 ≤ (gI s 0 22).toInt ∧ (gI s 0 22).toInt < 256) (Q : St → Prop) (h : Q (sI (sI s 13 (ix (gI s 0 22)) n) 0 22 (gI s 0 22 + 1))) : calV PP 29 14 [.ref 0, .int n] s Q := by
  apply c29_in
  exact ⟨fun z => absurd z (by rw [own_lt0]; omega), fun _ => ⟨fun _ => ⟨⟨y22.1, y22.2⟩, h⟩, fun z => absurd (by rw [own_lt256]; omega) z⟩⟩
theorem own_m1 {x : Int32} (h : 0 ≤ x.toInt ∧ x.toInt ≤ 256) : (x + -1).toInt = x.toInt - 1 := by rw [i32_add] <;> simp <;> omega
theorem own_le {B L : Int32} (hB : 0 ≤ B.toInt ∧ B.toInt ≤ 256) (hL : 0 ≤ L.toInt ∧ L.toInt ≤ 6) : (B + L).toInt = B.toInt + L.toInt := by rw [i32_add] <;> omega
theorem own_le2 {B L : Int32} (hB : 0 ≤ B.toInt ∧ B.toInt ≤ 256) (hL : 0 ≤ L.toInt ∧ L.toInt ≤ 6) (h : ¬ 256 < B + L) : B.toInt + L.toInt ≤ 256 := by
  have l : (256 : Int32) < B + L ↔ 256 < (B + L).toInt := i32_lt
  have := own_le hB hL
  rw [l, this] at h; omega
theorem own_dl {L : Int32} (hL : 0 ≤ L.toInt ∧ L.toInt ≤ 6) : (L - 1).toInt = L.toInt - 1 := by rw [i32_sub] <;> simp <;> omega
/-- the pushes of expand -/
theorem own_s28k (B : Int32) (y19 : 0 ≤ B.toInt ∧ B.toInt ≤ 256) (w0 : St) (m Ln : Nat) (l6 : Ln ≤ 6) (mb : (m : Int) + Ln ≤ 256) (bb : B.toInt + Ln ≤ 256) (Q : Int32 → St → Prop) (h : ∀ w, (∀ c j, c ≠ 13 → ¬ (c = 0 ∧ j = 22) → gI w c j = gI w0 c j) → (gI w 0 22).toInt = m + Ln → (∀ i, i < m → gI w 13 i = gI w0 13 i) → (∀ q : Nat, q < Ln → (gI w 13 (m + q)).toInt = B.toInt + Ln - 1 - q) → Q 1 w) : ∀ k : Nat, k ≤ Ln → ∀ x : Int32, x.toInt = (k : Int) - 1 → ∀ w, (∀ c j, c ≠ 13 → ¬ (c = 0 ∧ j = 22) → gI w c j = gI w0 c j) → (gI w 0 22).toInt = (m : Int) + Ln - k → (∀ i, i < m → gI w 13 i = gI w0 13 i) → (∀ q : Nat, q + k < Ln → (gI w 13 (m + q)).toInt = B.toInt + Ln - 1 - q) → wpcI PP 28 cm28 14 114 [some (.ref 0), none, none, none, some (.int B), some (.int x), none] [] w Q := by
  intro k
  induction k with
  | zero => exact fun _ x ex w fr e22 so sn => c28_114 _ _ _ _ ⟨fun _ => h w fr (by omega) so (fun q hq => sn q (by omega)), fun z => absurd (by rw [i32_lt, ex]; decide) z⟩
  | succ k ih =>
    intro k6 x ex w fr e22 so sn
    have x0 : x.toInt = k := by omega
    have eX : (B + x).toInt = B.toInt + x.toInt := own_le y19 ⟨by omega, by omega⟩
    have m1 := own_m1 (x := x) ⟨by omega, by omega⟩
    have p2 : (x + -1).toInt = (k : Int) - 1 := by rw [m1, x0]
    have nz : ¬ x < 0 := by rw [own_lt0, x0]; omega
    have u1 := own_u1 (x := gI w 0 22) ⟨by omega, by omega⟩
    have ei := ix_int (i := gI w 0 22) (by omega)
    refine c28_114 _ _ _ _ ⟨fun z => absurd z nz, fun _ => own_s29 w _ ⟨by omega, by omega⟩ _ (ih (by omega) _ p2 _ (fun c j a b => by rw [own_ne b, own_nc a]; exact fr c j a b) (by rw [own_eq, u1, e22]; omega) (fun i hi => ?_) (fun q hq => ?_))⟩
    · rw [own_nc (by decide), own_ne (by omega)]; exact so i hi
    · rw [own_nc (by decide), gI_sI]
      split
      · rename_i w2
        omega
      · rename_i w2
        exact sn q (by have : m + q ≠ ix (gI w 0 22) := fun z => w2 ⟨rfl, z⟩
                       omega)
/-- expand -/
theorem own_s28 (b u : St) (A : own_A b) (L : own_L b u) (m : Nat) (hm : (m : Int) + 1 = (gI u 0 22).toInt) (r : Int32) (hr : 0 ≤ r.toInt ∧ r.toInt < (gI u 0 17).toInt ∧ (gI u 1 (ix r)).toInt = (gI u 10 (ix (gI u 13 m))).toInt - 16) (x16 : 16 ≤ (gI u 10 (ix (gI u 13 m))).toInt) (Q : Int32 → St → Prop) (h0 : Q 0 u) (h : ∀ t, own_L b t → own_f u + 1 ≤ own_f t → Q 1 t) : calI PP 28 14 [.ref 0, .int (gI u 13 m), .int r] u Q := by
  have Au := own_Z_A L.1 A
  have r16 := Au.1.2.1
  have l := Au.1.2.2.2.2.1 (ix r)
  have vs := Au.1.2.2.2.2.2.1 (ix r)
  have K := L.2.1
  obtain ⟨k19, k22, k23, k21, k0, kn, ks, kj, km, ke⟩ := L.2.1
  have sm := ks m (by omega)
  have em := ix_int sm.1
  have er := ix_int hr.1
  have nb : inb 256 (gI u 13 m) := ⟨sm.1, by show _ < (256 : Int); omega⟩
  have hr' : 0 ≤ r.toInt ∧ r.toInt < 16 := by omega
  have d := own_d1 (x := gI u 0 22) ⟨by omega, by omega⟩
  have eN := ix_int (i := gI u 0 19) (by omega)
  have eL := ix_int (i := gI u 2 (ix r)) l.1
  apply c28_in
  refine ⟨hr', fun _ => h0, fun le => ⟨nb, ?_⟩⟩
  have le := own_le2 (B := gI u 0 19) ⟨by omega, by omega⟩ l le
  have hK := fun (t : St) => own_K_exp (t := t) K m (ix (gI u 2 (ix r))) hm r hr x16
  have hX := fun (t : St) (Kt : own_K t) => own_X_exp (t := t) K Kt L.2.2 m hm r hr.1 x16
  have hZ := L.1
  have hf : own_f u = (gI u 0 19).toInt - (gI u 0 22).toInt + (gI u 0 23).toInt := rfl
  have fN : ∀ j, (j : Nat) < ix (gI u 2 (ix r)) → own_vs (gI u 3 (ix r * 6 + j)) := fun j hj => vs j (by omega) (by omega)
  generalize eB : gI u 0 19 = B at *
  generalize eLL : gI u 2 (ix r) = LL at *
  generalize end' : gI u 13 m = nd at *
  refine loop_up (F := fun i => ∀ w, (∀ c j, ¬ ((c = 10 ∨ c = 11 ∨ c = 12) ∧ ix B ≤ j ∧ j < ix B + ix i) → gI w c j = gI (sI (sI u 12 (ix nd) r) 0 22 (gI u 0 22 - 1)) c j) → (∀ j, j < ix i → gI w 10 (ix B + j) = gI u 3 (ix r * 6 + j) ∧ gI w 11 (ix B + j) = nd ∧ gI w 12 (ix B + j) = -1) → wpcI PP 28 cm28 14 47 [some (.ref 0), some (.int nd), some (.int r), some (.int LL), some (.int B), some (.int i), none] [] w Q) LL.toInt (by omega) (fun i i0 i1 e ih w fr new => ?_) (fun i hi w fr new => ?_) 0 (by decide) (by simpa using l.1) _ (fun c j _ => rfl) (fun j hj => absurd hj (by show ¬ j < 0; omega))
  · have eI : (B + i).toInt = B.toInt + i.toInt := own_le ⟨by omega, by omega⟩ ⟨i0, by omega⟩
    have ib : inb 256 (B + i) := ⟨by omega, by show _ < (256 : Int); omega⟩
    have ei := ix_int i0
    have ei1 := ix_int (i := i + 1) (by omega)
    have eb := ix_int (i := B + i) (by omega)
    have rk := own_rk hr' (j := i) ⟨i0, by omega⟩
    have w3 : gI w 3 (ix (r * 6 + i)) = gI u 3 (ix r * 6 + ix i) := by rw [fr 3 _ (by omega), own_nc (by decide), own_nc (by decide), rk.2]
    have xb : ix (B + i) = ix B + ix i := by omega
    refine c28_47 _ _ _ _ _ _ _ ⟨fun _ => ⟨rk.1, ib, ib, ib, ih _ (fun c j hc => ?_) (fun j hj => ?_)⟩, fun w => absurd (by rw [i32_lt]; exact i1) w⟩
    · rw [own_ne (by omega), own_ne (by omega), own_ne (by omega)]
      exact fr c j (by omega)
    · rw [own_nc (c' := 10) (by decide), own_nc (c' := 10) (by decide), own_nc (c' := 11) (by decide)]
      by_cases q : j = ix i
      · subst q
        rw [xb, own_eq, own_eq, own_eq, w3]
        exact ⟨rfl, rfl, rfl⟩
      · iterate 6 rw [own_ne (by omega)]
        exact new j (by omega)
  · have ei := ix_int (i := i) (by omega)
    have eI := own_le (B := B) ⟨by omega, by omega⟩ l
    have d1 := own_dl l
    have k1 : (LL - 1).toInt = (ix LL : Int) - 1 := by rw [d1]; omega
    refine c28_47 _ _ _ _ _ _ _ ⟨fun w => absurd w (by rw [i32_lt, hi]; omega), fun _ => ?_⟩
    have iL : ix i = ix LL := by omega
    rw [iL] at fr new
    have w22 : gI (sI w 0 19 (B + LL)) 0 22 = gI u 0 22 - 1 := by rw [own_ne (by decide), fr 0 22 (by omega), own_eq]
    have w13 : ∀ j, gI (sI w 0 19 (B + LL)) 13 j = gI u 13 j := fun j => by rw [own_nc (by decide), fr 13 j (by omega), own_nc (by decide), own_nc (by decide)]
    refine own_s28k B ⟨by omega, by omega⟩ (sI w 0 19 (B + LL)) m (ix LL) (by omega) (by omega) (by omega) Q (fun t ft e22 so sn => ?_) (ix LL) (by omega) _ k1 _ (fun _ _ _ _ => rfl) (by rw [w22, d]; omega) (fun _ _ => rfl) (fun q hq => absurd hq (by omega))
    have t19 : gI t 0 19 = B + LL := by rw [ft 0 19 (by decide) (by decide), own_eq]
    have tf : ∀ c j, c ≠ 10 → c ≠ 11 → c ≠ 12 → c ≠ 13 → ¬ (c = 0 ∧ (j = 19 ∨ j = 22)) → gI t c j = gI u c j := fun c j a1 a2 a3 a4 a5 => by rw [ft c j a4 (by omega), own_ne (by omega), fr c j (by omega), own_ne (by omega), own_nc a3]
    have tc : ∀ c j, (c = 10 ∨ c = 11 ∨ c = 12) → gI t c j = gI w c j := fun c j hc => by rw [ft c j (by omega) (by omega), own_ne (by omega)]
    have to : ∀ c j, (c = 10 ∨ c = 11 ∨ c = 12) → j < ix B → gI t c j = gI (sI (sI u 12 (ix nd) r) 0 22 (gI u 0 22 - 1)) c j := fun c j hc hj => by rw [tc c j hc, fr c j (by omega)]
    have t23 : gI t 0 23 = gI u 0 23 := tf 0 23 (by decide) (by decide) (by decide) (by decide) (by decide)
    have td : gI t 12 (ix nd) = r := by rw [to 12 _ (by omega) (by omega), own_nc (by decide), own_eq]
    have told : ∀ i, i < ix B → gI t 10 i = gI u 10 i ∧ gI t 11 i = gI u 11 i ∧ (i ≠ ix nd → gI t 12 i = gI u 12 i) := fun i hi => ⟨by rw [to 10 _ (by omega) (by omega), own_nc (by decide), own_nc (by decide)], by rw [to 11 _ (by omega) (by omega), own_nc (by decide), own_nc (by decide)], fun hn => by rw [to 12 _ (by omega) (by omega), own_nc (by decide), own_ne (fun q => hn q.2)]⟩
    have tnew : ∀ j, j < ix LL → gI t 10 (ix B + j) = gI u 3 (ix r * 6 + j) ∧ gI t 11 (ix B + j) = nd ∧ gI t 12 (ix B + j) = -1 := fun j hj => by
      have nw := new j hj
      rw [tc 10 _ (by omega), tc 11 _ (by omega), tc 12 _ (by omega)]
      exact nw
    have t19' : (gI t 0 19).toInt = B.toInt + ix LL := by rw [t19, eI]; omega
    have Kt := hK t tf td told (fun j hj => ⟨by rw [(tnew j hj).1]; exact fN j hj, (tnew j hj).2⟩) t19' (by rw [t19']; omega) (by rw [e22]) (fun i hi => by rw [so i hi, w13]) sn
    exact h t ⟨fun c j hc hj => by rw [tf c j (by omega) (by omega) (by omega) (by omega) (by omega)]; exact hZ c j hc hj, Kt, hX t Kt tf td told tnew t19' (by rw [e22]) (fun i hi => by rw [so i hi, w13]) sn⟩ (by rw [hf]; unfold own_f; rw [t19, t23, eI, e22]; omega)

/-- syncSet -/
theorem own_orc (a b : Int32) : (a ||| 1) &&& 1 = 1 := by
  rw [own_an]
  have : a &&& 1 ||| (1 : Int32) &&& 1 = ((1 : Int32) &&& 1) ||| (a &&& 1) := by
    apply Int32.toBitVec_inj.mp
    simp only [Int32.toBitVec_and, Int32.toBitVec_or]
    rw [BitVec.or_comm]
  rw [this, ← own_an]
  exact own_or1 (by decide)
theorem own_s30 (b u : St) (L : own_L b u) (a : Int32) (ha : 0 ≤ a.toInt ∧ a.toInt ≤ 3) (Q : Int32 → St → Prop) (h : ∀ v, v &&& 1 = 1 → Q v u) : calI PP 30 14 [.ref 0, .int a] u Q := by
  obtain ⟨k19, k22, k23, k21, k0, kn, ks, kj, km, ke⟩ := L.2.1
  by_cases sp : 1 ≤ (gI u 0 22).toInt
  · have d := own_d1 (x := gI u 0 22) ⟨sp, by omega⟩
    apply c30_in
    refine ⟨own_b8 ha, own_b8 ha, ?_⟩
    refine loop_up (F := fun i => ∀ x : Int32, x &&& 1 = 1 → wpcI PP 30 cm30 14 18 [some (.ref 0), none, some (.int x), some (.int i), none] [] u Q) ((gI u 0 22).toInt - 1) (by omega) (fun i i0 i1 e ih x hx => ?_) (fun i hi x hx => c30_18 _ _ _ _ ⟨fun w => absurd w (by rw [i32_lt, d]; omega), fun _ => h _ hx⟩) 0 (by decide) (by simp; omega) _ (own_orc _ 0)
    have ei := ix_int i0
    have si := ks (ix i) (by omega)
    have es := ix_int si.1
    have nd := (kn (ix (gI u 13 (ix i))) (by omega)).2.1
    exact c30_18 _ _ _ _ ⟨fun _ => ⟨fun _ => ⟨⟨i0, by show _ < (256 : Int); omega⟩, ⟨si.1, by show _ < (256 : Int); omega⟩, fun _ => c30_78 _ _ _ _ (ih _ (own_or1 hx)), fun g => ⟨(own_nt nd g).2.2, c30_78 _ _ _ _ (ih _ (own_or1 hx))⟩⟩, fun _ => h _ hx⟩, fun _ => h _ hx⟩
  · have z : gI u 0 22 = 0 := (i32_eq).mpr (by show _ = (0 : Int); omega)
    apply c30_in
    refine ⟨own_b8 ha, own_b8 ha, c30_18 _ _ _ _ ?_⟩
    rw [z]
    exact ⟨fun w => absurd w (by decide), fun _ => h _ (own_orc _ 0)⟩
theorem own_bt0 {m v : Int32} (hm : m &&& 1 = 1) (h : (m >>> (v &&& 31)) &&& 1 = 0) : v.toInt ≠ 0 := by
  intro z
  have : v = 0 := (i32_eq).mpr z
  subst this
  have e : m >>> ((0 : Int32) &&& 31) = m := by
    apply Int32.toBitVec_inj.mp
    simp
  rw [e, hm] at h
  exact absurd h (by decide)
theorem own_gt32 {x : Int32} : (32 : Int32) < x ↔ 32 < x.toInt := i32_lt
/-- recover -/
theorem own_s31 (b u : St) (A : own_A b) (T : own_T b) (L : own_L b u) (a : Int32) (ha : 0 ≤ a.toInt ∧ a.toInt ≤ 3) (sp : 1 ≤ (gI u 0 22).toInt) (neg : gI u 7 (ix (a * 16 + own_la u)) < 0) (Q : St → Prop) (h : ∀ t, own_L b t → own_f u + 1 ≤ own_f t → Q t) : calV PP 31 14 [.ref 0, .int a] u Q := by
  have fin : ∀ w, own_L b w → (w = u ∨ own_f u + 1 ≤ own_f w) → gI w 0 22 = gI u 0 22 → wpcV PP 31 cm31 14 59 [some (.ref 0), some (.int a), none, none, none] [] w Q := fun w Lw hw e22 => by
    have Aw := own_Z_A Lw.1 A
    have T32 := Aw.1.2.2.1
    have K := Lw.2.1
    obtain ⟨k19, k22, k23, k21, k0, kn, ks, kj, km, ke⟩ := Lw.2.1
    have la := own_la_r w Aw k23.1
    have d := own_d1 (x := gI w 0 22) ⟨by rw [e22]; exact sp, by omega⟩
    refine c31_59 _ _ _ (own_s23 w Aw k23.1 _ ⟨(own_tk ha la.1).1, fun _ => own_s24 w _ _ _ k21.1 _ fun t rc => ?_, fun g => ?_⟩)
    · have e2 : gI t 0 22 = gI w 0 22 := rc.1 0 22 (by decide) (by decide)
      rw [e2]
      have g22 : gI (sI t 0 22 (gI w 0 22 - 1)) 0 22 = gI w 0 22 - 1 := own_eq
      have g23 : gI (sI t 0 22 (gI w 0 22 - 1)) 0 23 = gI w 0 23 := by rw [own_ne (by decide)]; exact rc.1 0 23 (by decide) (by decide)
      have g19 : gI (sI t 0 22 (gI w 0 22 - 1)) 0 19 = gI w 0 19 := by rw [own_ne (by decide)]; exact rc.1 0 19 (by decide) (by decide)
      have Zt : own_Z b (sI t 0 22 (gI w 0 22 - 1)) := own_Z_s (fun c j hc hj => by rw [rc.1 c j (by omega) (by omega)]; exact Lw.1 c j hc hj) 0 22 _ (by omega)
      have a16 : (16 + a).toInt = 16 + a.toInt := by rw [i32_add] <;> simp <;> omega
      refine h _ ⟨Zt, own_KX_rec 3 _ _ K Lw.2.2 T32.2 (fun c j a b => ?_) (by rw [own_ne (by decide)]; exact rc.2.1) (fun k hk => by rw [own_nc (by decide)]; exact rc.2.2.1 k hk) (fun q => by rw [own_nc (by decide)]; exact rc.2.2.2 q) (by decide) rfl ⟨by omega, by omega⟩ (fun z => absurd z (by decide)) (Or.inr ⟨by decide, by rw [e22]; exact sp, by rw [g22]; exact d, g23⟩)⟩ ?_
      · rw [own_ne (by omega)]
        exact rc.1 c j a (by omega)
      · have f2 : own_f w + 1 = own_f (sI t 0 22 (gI w 0 22 - 1)) := by unfold own_f; rw [g22, g23, g19]; omega
        rcases hw with hw | hw
        · subst hw; omega
        · omega
    · rcases hw with hw | hw
      · subst hw; exact absurd neg g
      · exact h w Lw hw
  have Au := own_Z_A L.1 A
  apply c31_in
  refine own_s30 b u L a ha _ fun m hm => ?_
  refine loop_up (F := fun i => ∀ w, own_L b w → (w = u ∨ own_f u + 1 ≤ own_f w) → gI w 0 22 = gI u 0 22 → wpcV PP 31 cm31 14 8 [some (.ref 0), some (.int a), some (.int m), some (.int i), none] [] w Q) 33 (by decide) (fun i i0 i1 e ih w Lw hw e22 => ?_) (fun i hi w Lw hw e22 => c31_8 _ _ _ _ _ ⟨fun _ => fin w Lw hw e22, fun w => absurd (by rw [own_gt32, hi]; decide) w⟩) 0 (by decide) (by decide) u L (Or.inl rfl) rfl
  have Aw := own_Z_A Lw.1 A
  have T32 := Aw.1.2.2.1
  have K := Lw.2.1
  obtain ⟨k19, k22, k23, k21, k0, kn, ks, kj, km, ke⟩ := Lw.2.1
  have la := own_la_r w Aw k23.1
  refine c31_8 _ _ _ _ _ ⟨fun _ => fin w Lw hw e22, fun _ => own_s23 w Aw k23.1 _ ⟨fun z => own_s24 w _ _ _ k21.1 _ fun t rc => ?_, fun _ => fin w Lw hw e22⟩⟩
  have lt := la.2 (own_bt0 hm z)
  have p1 := own_u1 (x := gI w 0 23) ⟨k23.1, by omega⟩
  have e3 : gI t 0 23 = gI w 0 23 := rc.1 0 23 (by decide) (by decide)
  rw [e3]
  have g23 : gI (sI t 0 23 (gI w 0 23 + 1)) 0 23 = gI w 0 23 + 1 := own_eq
  have g22 : gI (sI t 0 23 (gI w 0 23 + 1)) 0 22 = gI w 0 22 := by rw [own_ne (by decide)]; exact rc.1 0 22 (by decide) (by decide)
  have g19 : gI (sI t 0 23 (gI w 0 23 + 1)) 0 19 = gI w 0 19 := by rw [own_ne (by decide)]; exact rc.1 0 19 (by decide) (by decide)
  have Zt : own_Z b (sI t 0 23 (gI w 0 23 + 1)) := own_Z_s (fun c j hc hj => by rw [rc.1 c j (by omega) (by omega)]; exact Lw.1 c j hc hj) 0 23 _ (by omega)
  have f2 : own_f w + 1 = own_f (sI t 0 23 (gI w 0 23 + 1)) := by unfold own_f; rw [g22, g23, g19]; omega
  refine ih _ ⟨Zt, own_KX_rec 2 _ (own_la w) K Lw.2.2 T32.2 (fun c j a b => ?_) (by rw [own_ne (by decide)]; exact rc.2.1) (fun k hk => by rw [own_nc (by decide)]; exact rc.2.2.1 k hk) (fun q => by rw [own_nc (by decide)]; exact rc.2.2.2 q) (by decide) rfl ⟨by omega, by omega⟩ (fun _ => if_pos lt) (Or.inl ⟨rfl, g22, by rw [g23]; exact p1, lt⟩)⟩ (Or.inr ?_) (by rw [g22]; exact e22)
  · rw [own_ne (by omega)]
    exact rc.1 c j a (by omega)
  · rcases hw with hw | hw
    · subst hw; omega
    · omega
/-- expandOrRecover -/
theorem own_s27 (b u : St) (A : own_A b) (T : own_T b) (L : own_L b u) (m : Nat) (hm : (m : Int) + 1 = (gI u 0 22).toInt) (x16 : 16 ≤ (gI u 10 (ix (gI u 13 m))).toInt) (Q : Int32 → St → Prop) (h0 : Q 0 u) (h : ∀ t, own_L b t → own_f u + 1 ≤ own_f t → Q 1 t) : calI PP 27 14 [.ref 0, .int (gI u 13 m), .int (gI u 10 (ix (gI u 13 m)) - 16)] u Q := by
  have Au := own_Z_A L.1 A
  have Tu := own_Z_T L.1 T
  have K := L.2.1
  obtain ⟨k19, k22, k23, k21, k0, kn, ks, kj, km, ke⟩ := L.2.1
  have sm := ks m (by omega)
  have em := ix_int sm.1
  have nd := own_nt (kn (ix (gI u 13 m)) (by omega)).2.1 (by rw [own_lt16]; omega)
  have la := own_la_r u Au k23.1
  have tk := own_tk nd.2.1 la.1
  have ea := ix_int nd.2.1.1
  have el := ix_int la.1.1
  have te := Tu (ix (gI u 10 (ix (gI u 13 m)) - 16)) (ix (own_la u)) (by omega) (by omega)
  unfold own_te at te
  rw [← tk.2] at te
  apply c27_in
  refine own_s23 u Au k23.1 _ ⟨tk.1, fun neg => own_s31 b u A T L _ nd.2.1 (by omega) neg _ fun t Lt ft => h t Lt ft, fun g => own_s28 b u A L m hm _ ?_ x16 _ h0 fun t Lt ft => h t Lt ft⟩
  rw [own_lt0] at g
  rcases te with q | q
  · rw [q] at g; exact absurd (by decide) g
  · refine ⟨q.1, q.2.1, ?_⟩
    rw [q.2.2]; omega
/-- skipRest -/
theorem own_s25 (b u : St) (A : own_A b) (L : own_L b u) (Q : St → Prop) (h : ∀ t, own_L b t → gI t 0 23 = gI t 0 18 → gI t 0 22 = gI u 0 22 → Q t) : calV PP 25 14 [.ref 0] u Q := by
  have Au := own_Z_A L.1 A
  have T32 := Au.1.2.2.1
  have e18 : ∀ w, own_L b w → gI w 0 18 = gI b 0 18 := fun w Lw => Lw.1 0 18 (by decide) (by decide)
  have u18 := e18 u L
  apply c25_in
  refine loop_up (F := fun i => ∀ w, own_L b w → i.toInt ≤ (gI w 0 23).toInt → gI w 0 22 = gI u 0 22 → wpcV PP 25 cm25 14 2 [some (.ref 0), some (.int i)] [] w Q) 32 (by decide) (fun i i0 i1 e ih w Lw hi wz => ?_) (fun i hi w Lw hw wz => c25_2 _ _ _ ⟨fun w => absurd w (by rw [i32_lt, hi]; decide), fun _ => h w Lw ?_ wz⟩) 0 (by decide) (by decide) u L ?_ rfl
  · have Aw := own_Z_A Lw.1 A
    have K := Lw.2.1
    obtain ⟨k19, k22, k23, k21, k0, kn, ks, kj, km, ke⟩ := Lw.2.1
    have w18 := e18 w Lw
    rw [u18] at T32
    refine c25_2 _ _ _ ⟨fun _ => ⟨fun lt => ?_, fun lt => h w Lw ?_ wz⟩, fun q => absurd (by rw [i32_lt]; exact i1) q⟩
    · rw [i32_lt] at lt
      have ep := ix_int k23.1
      have tk := Aw.1.2.2.2.2.2.2 (ix (gI w 0 23)) (by omega)
      have p1 := own_u1 (x := gI w 0 23) ⟨k23.1, by rw [w18] at k23; omega⟩
      refine ⟨⟨k23.1, by show _ < (32 : Int); rw [w18] at lt; omega⟩, own_s24 w _ _ _ k21.1 _ fun t rc => ?_⟩
      have e3 : gI t 0 23 = gI w 0 23 := rc.1 0 23 (by decide) (by decide)
      rw [e3]
      have g23 : gI (sI t 0 23 (gI w 0 23 + 1)) 0 23 = gI w 0 23 + 1 := own_eq
      have g22 : gI (sI t 0 23 (gI w 0 23 + 1)) 0 22 = gI w 0 22 := by rw [own_ne (by decide)]; exact rc.1 0 22 (by decide) (by decide)
      have Zt : own_Z b (sI t 0 23 (gI w 0 23 + 1)) := own_Z_s (fun c j hc hj => by rw [rc.1 c j (by omega) (by omega)]; exact Lw.1 c j hc hj) 0 23 _ (by omega)
      refine ih _ ⟨Zt, own_KX_rec 2 _ _ K Lw.2.2 (by rw [w18]; exact T32.2) (fun c j a b => ?_) (by rw [own_ne (by decide)]; exact rc.2.1) (fun k hk => by rw [own_nc (by decide)]; exact rc.2.2.1 k hk) (fun q => by rw [own_nc (by decide)]; exact rc.2.2.2 q) (by decide) rfl ⟨by omega, by omega⟩ (fun _ => rfl) (Or.inl ⟨rfl, g22, by rw [g23]; exact p1, lt⟩)⟩ (by rw [g23, p1]; omega) (by rw [g22]; exact wz)
      rw [own_ne (by omega)]
      exact rc.1 c j a (by omega)
    · rw [i32_lt] at lt
      exact (i32_eq).mpr (by omega)
  · have k23 := Lw.2.1.2.2.1
    have w18 := e18 w Lw
    rw [u18] at T32
    rw [w18] at k23 ⊢
    exact (i32_eq).mpr (by omega)
  · exact L.2.1.2.2.1.1

/-- parse begins -/
theorem own_K0 (s : St) (e21 : gI s 0 21 = 0) (T0 : 0 ≤ (gI s 0 18).toInt) : own_K (sI (sI (sI (sI (sI (sI (sI s 0 19 1) 10 (ix 0) 16) 11 (ix 0) (-1)) 12 (ix 0) (-1)) 13 (ix 0) 0) 0 22 1) 0 23 0) := by
  have i0 : ix (0 : Int32) = 0 := rfl
  have i1 : ix (1 : Int32) = 1 := rfl
  rw [i0]
  generalize ht : sI (sI (sI (sI (sI (sI (sI s 0 19 1) 10 0 16) 11 0 (-1)) 12 0 (-1)) 13 0 0) 0 22 1) 0 23 0 = t
  have g19 : gI t 0 19 = 1 := by rw [← ht]; simp [gI_sI]
  have g22 : gI t 0 22 = 1 := by rw [← ht]; simp [gI_sI]
  have g23 : gI t 0 23 = 0 := by rw [← ht]; simp [gI_sI]
  have g21 : gI t 0 21 = 0 := by rw [← ht]; simp [gI_sI, e21]
  have g18 : gI t 0 18 = gI s 0 18 := by rw [← ht]; simp [gI_sI]
  have g10 : gI t 10 0 = 16 := by rw [← ht]; simp [gI_sI]
  have g11 : gI t 11 0 = -1 := by rw [← ht]; simp [gI_sI]
  have g12 : gI t 12 0 = -1 := by rw [← ht]; simp [gI_sI]
  have g13 : gI t 13 0 = 0 := by rw [← ht]; simp [gI_sI]
  have c0 : (0 : Int32).toInt = 0 := by decide
  have c1 : (1 : Int32).toInt = 1 := by decide
  have c16 : (16 : Int32).toInt = 16 := by decide
  unfold own_K
  rw [g19, g22, g23, g21, g18, g10, g11, c0, c1, i1, i0]
  refine ⟨by omega, by omega, by omega, by omega, ⟨rfl, rfl⟩, fun i hi => ?_, fun i hi => ?_, fun i j hi hj _ => by omega, fun _ => ?_, fun k hk => absurd hk (by omega)⟩
  · have z : i = 0 := by omega
    subst z
    unfold own_nd
    rw [g10, g12, c16]
    exact ⟨fun q => absurd q (by omega), Or.inr ⟨by decide, by decide⟩, fun q => absurd q (by omega), fun _ => Or.inl rfl⟩
  · have z : i = 0 := by omega
    subst z
    rw [g13, i0, g12]
    exact ⟨by decide, by decide, rfl⟩
  · show (0 : Int) + (if (gI t 10 0).toInt < 16 ∧ 0 ≤ (gI t 12 0).toInt then 1 else 0) + 0 = 0
    rw [g10, c16, if_neg (fun q => absurd q.1 (by omega))]; rfl
theorem own_X0 (s : St) (e21 : gI s 0 21 = 0) : own_X (sI (sI (sI (sI (sI (sI (sI s 0 19 1) 10 (ix 0) 16) 11 (ix 0) (-1)) 12 (ix 0) (-1)) 13 (ix 0) 0) 0 22 1) 0 23 0) := by
  have i0 : ix (0 : Int32) = 0 := rfl
  have i1 : ix (1 : Int32) = 1 := rfl
  rw [i0]
  generalize ht : sI (sI (sI (sI (sI (sI (sI s 0 19 1) 10 0 16) 11 0 (-1)) 12 0 (-1)) 13 0 0) 0 22 1) 0 23 0 = t
  have g19 : gI t 0 19 = 1 := by rw [← ht]; simp [gI_sI]
  have g22 : gI t 0 22 = 1 := by rw [← ht]; simp [gI_sI]
  have g23 : gI t 0 23 = 0 := by rw [← ht]; simp [gI_sI]
  have g21 : gI t 0 21 = 0 := by rw [← ht]; simp [gI_sI, e21]
  have g10 : gI t 10 0 = 16 := by rw [← ht]; simp [gI_sI]
  have g11 : gI t 11 0 = -1 := by rw [← ht]; simp [gI_sI]
  have g12 : gI t 12 0 = -1 := by rw [← ht]; simp [gI_sI]
  have g13 : gI t 13 0 = 0 := by rw [← ht]; simp [gI_sI]
  have c0 : (0 : Int32).toInt = 0 := by decide
  have c16 : (16 : Int32).toInt = 16 := by decide
  have cm : (-1 : Int32).toInt = -1 := by decide
  unfold own_X
  rw [g19, g22, g21, g23, i0, i1, c0]
  refine ⟨fun i hi => ⟨fun e => ?_, fun _ j hj => ?_⟩, ⟨fun i hi => by omega, fun _ => ?_⟩, ⟨fun _ => 0, fun t ht => by omega, fun _ => ?_, fun h => by omega, fun t ht => by omega, fun t ht => by omega, ?_, fun _ => ⟨fun t ht => by omega, ?_⟩⟩, fun _ i hi ns => ?_, fun _ p hp => ?_, fun k hk => by omega, fun i hi m => ?_⟩
  · have z : i = 0 := by omega
    subst z
    have := e.2
    rw [g12, cm] at this; omega
  · have z : j = 0 := by omega
    subst z
    rw [g11, cm]; omega
  · rw [g13, i0]; exact own_nx_0 _ _
  · unfold own_top
    rw [g22, i1, if_neg (by decide)]
    show (gI t 13 0).toInt = 0
    rw [g13]; exact c0
  · show (-1 : Int) < (gI t 0 23).toInt
    rw [g23, c0]; omega
  · show (0 : Int) = (gI t 0 23).toInt
    rw [g23, c0]
  · have z : i = 0 := by omega
    subst z
    exact absurd (by rw [g13, c0]; rfl) (ns 0 (by omega))
  · show (0 + (if own_nb t p 0 then 1 else 0)) + 0 = _
    have : own_nb t p 0 = false := by
      unfold own_nb
      rw [g10, c16]
      simp
    rw [this, if_neg (by decide), if_neg (by omega)]
  · have z : i = 0 := by omega
    subst z
    have := m.1
    rw [g10, c16] at this; omega
/-- parse -/
theorem own_s22 (s : St) (A : own_A s) (T : gI s 0 24 ≠ 0 → own_T s) (e21 : gI s 0 25 = 0 → gI s 0 21 = 0) (Q : Int32 → St → Prop) (h0 : gI s 0 24 = 0 ∨ gI s 0 25 ≠ 0 → Q (-1) s) (h : ∀ v t, gI s 0 24 ≠ 0 → gI s 0 25 = 0 → own_L (sI s 0 25 1) t → (v = 2 ∨ ((v = 0 ∧ gI t 0 21 = 0 ∨ v = 1 ∧ gI t 0 21 ≠ 0) ∧ gI t 0 23 = gI t 0 18 ∧ gI t 0 22 = 0)) → Q v t) : calI PP 22 14 [.ref 0] s Q := by
  have A1 : own_A (sI s 0 25 1) := own_A_s A 0 25 1 (by omega)
  apply c22_in
  refine ⟨fun z => h0 (Or.inl z), fun n => ⟨fun z => ⟨by decide, by decide, by decide, by decide, ?_⟩, fun z => h0 (Or.inr z)⟩⟩
  have T1 : own_T (sI s 0 25 1) := own_T_cg (T n) (fun j => own_nc (by decide)) (fun j => own_nc (by decide)) (own_ne (by decide))
  have e1 : gI (sI s 0 25 1) 0 21 = 0 := by rw [own_ne (by decide)]; exact e21 z
  have hL := fun v t => h v t n z
  generalize sI s 0 25 1 = b at *
  have T32 := A1.1.2.2.1
  have fin : ∀ u, own_L b u → gI u 0 23 = gI u 0 18 → gI u 0 22 = 0 → wpcI PP 22 cm22 14 142 [some (.ref 0), none, none, none] [] u Q := fun u Lu e ez => c22_142 _ _ ⟨fun q => hL _ u Lu (Or.inr ⟨Or.inl ⟨rfl, q⟩, e, ez⟩), fun q => hL _ u Lu (Or.inr ⟨Or.inr ⟨rfl, q⟩, e, ez⟩)⟩
  have L0 : own_L b (sI (sI (sI (sI (sI (sI (sI b 0 19 1) 10 (ix 0) 16) 11 (ix 0) (-1)) 12 (ix 0) (-1)) 13 (ix 0) 0) 0 22 1) 0 23 0) := ⟨own_Z_s (own_Z_s (own_Z_s (own_Z_s (own_Z_s (own_Z_s (own_Z_s (fun _ _ _ _ => rfl) 0 19 _ (by omega)) 10 _ _ (by omega)) 11 _ _ (by omega)) 12 _ _ (by omega)) 13 _ _ (by omega)) 0 22 _ (by omega)) 0 23 _ (by omega), own_K0 b e1 T32.1, own_X0 b e1⟩
  refine loop_up (F := fun i => ∀ u, own_L b u → i.toInt ≤ own_f u → wpcI PP 22 cm22 14 67 [some (.ref 0), some (.int i), none, none] [] u Q) 2048 (by decide) (fun i i0 i1 e ih u Lu fu => ?_) (fun i hi u Lu fu => ?_) 0 (by decide) (by decide) _ L0 ?_
  · obtain ⟨k19, k22, k23, k21, k0, kn, ks, kj, km, ke⟩ := Lu.2.1
    have gt0 : (0 : Int32) < gI u 0 22 ↔ 0 < (gI u 0 22).toInt := i32_lt
    refine c22_67 _ _ _ ⟨fun _ => ⟨fun lt => ?_, fun nl => own_s25 b u A1 Lu _ fun t Lt et tz => fin t Lt et (by rw [tz]; exact (i32_eq).mpr (by rw [gt0] at nl; show _ = (0 : Int); omega))⟩, fun w => absurd (by rw [i32_lt]; exact i1) w⟩
    rw [gt0] at lt
    have d := own_d1 (x := gI u 0 22) ⟨by omega, by omega⟩
    have em := ix_int (i := gI u 0 22 - 1) (by omega)
    have hm : (ix (gI u 0 22 - 1) : Int) + 1 = (gI u 0 22).toInt := by omega
    have sm := ks (ix (gI u 0 22 - 1)) (by omega)
    have nx : ∀ t, own_L b t → own_f u + 1 ≤ own_f t → wpcI PP 22 cm22 14 136 [some (.ref 0), some (.int i), none, none] [] t Q := fun t Lt ft => c22_136 _ _ _ (ih t Lt (by omega))
    refine ⟨⟨by omega, by show _ < (256 : Int); omega⟩, ⟨sm.1, by show _ < (256 : Int); omega⟩, fun g => own_s26 b u A1 Lu _ hm (by rw [own_lt16] at g; exact g) _ nx, fun g => own_s27 b u A1 T1 Lu _ hm (by rw [own_lt16] at g; omega) _ ⟨fun _ => hL _ u Lu (Or.inl rfl), fun q => absurd rfl q⟩ fun t Lt ft => ⟨fun q => absurd q (by decide), fun _ => nx t Lt ft⟩⟩
  · obtain ⟨k19, k22, k23, k21, k0, kn, ks, kj, km, ke⟩ := Lu.2.1
    have e18 : gI u 0 18 = gI b 0 18 := Lu.1 0 18 (by decide) (by decide)
    rw [e18] at k23
    unfold own_f at fu
    omega
  · unfold own_f
    have g19 : gI (sI (sI (sI (sI (sI (sI (sI b 0 19 1) 10 (ix 0) 16) 11 (ix 0) (-1)) 12 (ix 0) (-1)) 13 (ix 0) 0) 0 22 1) 0 23 0) 0 19 = 1 := by simp [gI_sI]
    have g22 : gI (sI (sI (sI (sI (sI (sI (sI b 0 19 1) 10 (ix 0) 16) 11 (ix 0) (-1)) 12 (ix 0) (-1)) 13 (ix 0) 0) 0 22 1) 0 23 0) 0 22 = 1 := by simp [gI_sI]
    have g23 : gI (sI (sI (sI (sI (sI (sI (sI b 0 19 1) 10 (ix 0) 16) 11 (ix 0) (-1)) 12 (ix 0) (-1)) 13 (ix 0) 0) 0 22 1) 0 23 0) 0 23 = 0 := by simp [gI_sI]
    rw [g19, g22, g23]; decide

/-! beginRule, addSymbol, token, where they succeed -/
theorem own_lt6 {x : Int32} : x < 6 ↔ x.toInt < 6 := i32_lt
theorem own_lt1 {x : Int32} : x < 1 ↔ x.toInt < 1 := i32_lt
theorem own_lt32 {x : Int32} : x < 32 ↔ x.toInt < 32 := i32_lt
theorem own_z3 (s : St) (a : Int32) (b : gI s 0 24 = 0) (ha : 0 ≤ a.toInt ∧ a.toInt < (gI s 0 15).toInt) (lt : 0 ≤ (gI s 0 17).toInt ∧ (gI s 0 17).toInt < 16) (Q : Int32 → St → Prop) (h : Q (gI s 0 17) (sI (sI (sI s 1 (ix (gI s 0 17)) a) 2 (ix (gI s 0 17)) 0) 0 17 (gI s 0 17 + 1))) : calI PP 3 14 [.ref 0, .int a] s Q := by
  apply c3_in
  exact ⟨fun _ => ⟨fun n => absurd n (by rw [own_lt0]; omega), fun _ => ⟨fun _ => ⟨fun _ => ⟨lt, lt, h⟩, fun z => absurd (by rw [own_lt16]; omega) z⟩, fun z => absurd (by rw [i32_lt]; exact ha.2) z⟩⟩, fun z => absurd b z⟩
theorem own_z4 (s : St) (A : own_A s) (a : Int32) (b : gI s 0 24 = 0) (r1 : 1 ≤ (gI s 0 17).toInt) (lt : (gI s 2 (ix (gI s 0 17 - 1))).toInt < 6) (va : (1 ≤ a.toInt ∧ a.toInt ≤ (gI s 0 16).toInt) ∨ (16 ≤ a.toInt ∧ a.toInt < 16 + (gI s 0 15).toInt)) (Q : Int32 → St → Prop) (h : Q 1 (sI (sI s 3 (ix ((gI s 0 17 - 1) * 6 + gI s 2 (ix (gI s 0 17 - 1)))) a) 2 (ix (gI s 0 17 - 1)) (gI s 2 (ix (gI s 0 17 - 1)) + 1))) : calI PP 4 14 [.ref 0, .int a] s Q := by
  have y15 := A.1.1
  have y17 := A.1.2.1
  have d := own_d1 (x := gI s 0 17) ⟨by omega, by omega⟩
  have l := A.1.2.2.2.2.1 (ix (gI s 0 17 - 1))
  have rb : 0 ≤ (gI s 0 17 - 1).toInt ∧ (gI s 0 17 - 1).toInt < 16 := by omega
  have e16 : (16 + gI s 0 15).toInt = 16 + (gI s 0 15).toInt := by rw [i32_add] <;> simp <;> omega
  have z0 : gI s 0 17 = 0 ↔ (gI s 0 17).toInt = 0 := i32_eq
  have v5 : ∀ Q : Int32 → St → Prop, Q 1 s → calI PP 5 14 [.ref 0, .int a] s Q := fun Q hq => by
    have go : ¬ (1 ≤ a.toInt ∧ a.toInt ≤ (gI s 0 16).toInt) → wpcI PP 5 cm5 14 15 [some (.ref 0), some (.int a)] [] s Q := fun nt => by
      have v := va.resolve_left nt
      exact c5_15 _ _ _ ⟨fun z => absurd z (by rw [own_lt16]; omega), fun _ => ⟨fun _ => hq, fun z => absurd (by rw [i32_lt, e16]; exact v.2) z⟩⟩
    apply c5_in
    exact ⟨fun z => go (by rw [own_lt1] at z; omega), fun _ => ⟨fun z => go (by rw [i32_lt] at z; omega), fun _ => hq⟩⟩
  apply c4_in
  exact ⟨fun _ => ⟨fun z => absurd (z0.mp z) (by omega), fun _ => ⟨rb, fun _ => v5 _ ⟨fun z => absurd z (by decide), fun _ => ⟨rb, (own_rk rb ⟨l.1, lt⟩).1, rb, rb, h⟩⟩, fun z => absurd (by rw [own_lt6]; exact lt) z⟩⟩, fun z => absurd b z⟩
theorem own_z21 (s : St) (a : Int32) (b : gI s 0 25 = 0) (lt : 0 ≤ (gI s 0 18).toInt ∧ (gI s 0 18).toInt < 32) (ha : 1 ≤ a.toInt ∧ a.toInt ≤ (gI s 0 16).toInt) (Q : Int32 → St → Prop) (h : Q 1 (sI (sI s 9 (ix (gI s 0 18)) a) 0 18 (gI s 0 18 + 1))) : calI PP 21 14 [.ref 0, .int a] s Q := by
  apply c21_in
  exact ⟨fun _ => ⟨fun _ => ⟨fun z => absurd z (by rw [own_lt1]; omega), fun _ => ⟨fun z => absurd z (by rw [i32_lt]; omega), fun _ => ⟨lt, h⟩⟩⟩, fun z => absurd (by rw [own_lt32]; exact lt.2) z⟩, fun z => absurd b z⟩
/-- they keep the facts -/
theorem own_A_3 {s : St} (A : own_A s) (a : Int32) (ha : 0 ≤ a.toInt ∧ a.toInt < 4) (lt : (gI s 0 17).toInt < 16) : own_A (sI (sI (sI s 1 (ix (gI s 0 17)) a) 2 (ix (gI s 0 17)) 0) 0 17 (gI s 0 17 + 1)) := by
  obtain ⟨⟨y15, y17, y18, y1, y2, y3, y9⟩, a1, a2⟩ := A
  have u1 := own_u1 (x := gI s 0 17) ⟨y17.1, by omega⟩
  have e := ix_int y17.1
  generalize ht : sI (sI (sI s 1 (ix (gI s 0 17)) a) 2 (ix (gI s 0 17)) 0) 0 17 (gI s 0 17 + 1) = t
  have t17 : gI t 0 17 = gI s 0 17 + 1 := by rw [← ht, own_eq]
  have t0 : ∀ j, j ≠ 17 → gI t 0 j = gI s 0 j := fun j hj => by rw [← ht, own_ne (fun w => hj w.2), own_nc (by decide), own_nc (by decide)]
  have tc : ∀ c j, c ≠ 0 → c ≠ 1 → c ≠ 2 → gI t c j = gI s c j := fun c j p q r => by rw [← ht, own_nc p, own_nc r, own_nc q]
  have t1 : ∀ r, r ≠ ix (gI s 0 17) → gI t 1 r = gI s 1 r := fun r hr => by rw [← ht, own_nc (by decide), own_nc (by decide), own_ne (fun w => hr w.2)]
  have t1e : gI t 1 (ix (gI s 0 17)) = a := by rw [← ht, own_nc (by decide), own_nc (by decide), own_eq]
  have t2 : ∀ r, r ≠ ix (gI s 0 17) → gI t 2 r = gI s 2 r := fun r hr => by rw [← ht, own_nc (by decide), own_ne (fun w => hr w.2), own_nc (by decide)]
  have t2e : gI t 2 (ix (gI s 0 17)) = 0 := by rw [← ht, own_nc (by decide), own_eq]
  have c0 : (0 : Int32).toInt = 0 := by decide
  refine ⟨⟨?_, ?_, ?_, fun r => ?_, fun r => ?_, fun r j hr hj => ?_, fun p hp => ?_⟩, ?_, fun b => ?_⟩
  · rw [t0 15 (by decide), t0 16 (by decide)]; exact y15
  · rw [t17]; omega
  · rw [t0 18 (by decide)]; exact y18
  · by_cases q : r = ix (gI s 0 17)
    · subst q; rw [t1e]; omega
    · rw [t1 r q]; exact y1 r
  · by_cases q : r = ix (gI s 0 17)
    · subst q; rw [t2e, c0]; omega
    · rw [t2 r q]; exact y2 r
  · rw [tc 3 _ (by decide) (by decide) (by decide)]
    by_cases q : r = ix (gI s 0 17)
    · subst q; rw [t2e, c0] at hj; omega
    · rw [t2 r q] at hj
      rw [t17] at hr
      exact y3 r j (by omega) hj
  · rw [t0 18 (by decide)] at hp
    rw [tc 9 _ (by decide) (by decide) (by decide)]; exact y9 p hp
  · unfold own_A1
    simp only [t0 20 (by decide), tc 8 _ (by decide) (by decide) (by decide)]
    exact a1
  · rw [tc 5 _ (by decide) (by decide) (by decide), tc 4 _ (by decide) (by decide) (by decide)]
    refine ⟨(a2 b).1, fun z => (a2 b).2 fun r hr => ?_⟩
    have := z r (by rw [t17]; omega)
    rw [t1 r (by omega)] at this
    exact this
theorem own_A_4 {s : St} (A : own_A s) (a : Int32) (ha : own_vs a) (r1 : 1 ≤ (gI s 0 17).toInt) (lt : (gI s 2 (ix (gI s 0 17 - 1))).toInt < 6) : own_A (sI (sI s 3 (ix ((gI s 0 17 - 1) * 6 + gI s 2 (ix (gI s 0 17 - 1)))) a) 2 (ix (gI s 0 17 - 1)) (gI s 2 (ix (gI s 0 17 - 1)) + 1)) := by
  obtain ⟨⟨y15, y17, y18, y1, y2, y3, y9⟩, a1, a2⟩ := A
  have d := own_d1 (x := gI s 0 17) ⟨by omega, by omega⟩
  have l := y2 (ix (gI s 0 17 - 1))
  have u1 := own_u1 (x := gI s 2 (ix (gI s 0 17 - 1))) ⟨l.1, by omega⟩
  have rk := (own_rk (r := gI s 0 17 - 1) ⟨by omega, by omega⟩ ⟨l.1, lt⟩).2
  have e := ix_int (i := gI s 0 17 - 1) (by omega)
  have el := ix_int l.1
  rw [rk]
  generalize ht : sI (sI s 3 (ix (gI s 0 17 - 1) * 6 + ix (gI s 2 (ix (gI s 0 17 - 1)))) a) 2 (ix (gI s 0 17 - 1)) (gI s 2 (ix (gI s 0 17 - 1)) + 1) = t
  have tc : ∀ c j, c ≠ 2 → c ≠ 3 → gI t c j = gI s c j := fun c j p q => by rw [← ht, own_nc p, own_nc q]
  have t2 : ∀ r, r ≠ ix (gI s 0 17 - 1) → gI t 2 r = gI s 2 r := fun r hr => by rw [← ht, own_ne (fun w => hr w.2), own_nc (by decide)]
  have t2e : gI t 2 (ix (gI s 0 17 - 1)) = gI s 2 (ix (gI s 0 17 - 1)) + 1 := by rw [← ht, own_eq]
  have t3 : ∀ k, k ≠ ix (gI s 0 17 - 1) * 6 + ix (gI s 2 (ix (gI s 0 17 - 1))) → gI t 3 k = gI s 3 k := fun k hk => by rw [← ht, own_nc (by decide), own_ne (fun w => hk w.2)]
  have t3e : gI t 3 (ix (gI s 0 17 - 1) * 6 + ix (gI s 2 (ix (gI s 0 17 - 1)))) = a := by rw [← ht, own_nc (by decide), own_eq]
  refine ⟨⟨?_, ?_, ?_, fun r => ?_, fun r => ?_, fun r j hr hj => ?_, fun p hp => ?_⟩, ?_, ?_⟩
  · rw [tc 0 _ (by decide) (by decide), tc 0 _ (by decide) (by decide)]; exact y15
  · rw [tc 0 _ (by decide) (by decide)]; exact y17
  · rw [tc 0 _ (by decide) (by decide)]; exact y18
  · rw [tc 1 _ (by decide) (by decide)]; exact y1 r
  · by_cases q : r = ix (gI s 0 17 - 1)
    · subst q; rw [t2e, u1]; omega
    · rw [t2 r q]; exact y2 r
  · rw [tc 0 _ (by decide) (by decide)] at hr
    by_cases q : r = ix (gI s 0 17 - 1)
    · subst q
      rw [t2e, u1] at hj
      by_cases k : j = ix (gI s 2 (ix (gI s 0 17 - 1)))
      · subst k; rw [t3e]; exact ha
      · rw [t3 _ (by omega)]; exact y3 _ j hr (by omega)
    · rw [t2 r q] at hj
      have := y2 r
      rw [t3 _ (by omega)]; exact y3 r j hr hj
  · rw [tc 0 _ (by decide) (by decide)] at hp
    rw [tc 9 _ (by decide) (by decide)]; exact y9 p hp
  · unfold own_A1
    simp only [tc 0 _ (show (0 : Nat) ≠ 2 by decide) (by decide), tc 8 _ (show (8 : Nat) ≠ 2 by decide) (by decide)]
    exact a1
  · unfold own_A2
    simp only [tc 0 _ (show (0 : Nat) ≠ 2 by decide) (by decide), tc 1 _ (show (1 : Nat) ≠ 2 by decide) (by decide), tc 4 _ (show (4 : Nat) ≠ 2 by decide) (by decide), tc 5 _ (show (5 : Nat) ≠ 2 by decide) (by decide)]
    exact a2
theorem own_A_21 {s : St} (A : own_A s) (a : Int32) (ha : 1 ≤ a.toInt ∧ a.toInt ≤ 4) (lt : (gI s 0 18).toInt < 32) : own_A (sI (sI s 9 (ix (gI s 0 18)) a) 0 18 (gI s 0 18 + 1)) := by
  obtain ⟨⟨y15, y17, y18, y1, y2, y3, y9⟩, a1, a2⟩ := A
  have u1 := own_u1 (x := gI s 0 18) ⟨y18.1, by omega⟩
  have e := ix_int y18.1
  generalize ht : sI (sI s 9 (ix (gI s 0 18)) a) 0 18 (gI s 0 18 + 1) = t
  have t18 : gI t 0 18 = gI s 0 18 + 1 := by rw [← ht, own_eq]
  have t0 : ∀ j, j ≠ 18 → gI t 0 j = gI s 0 j := fun j hj => by rw [← ht, own_ne (fun w => hj w.2), own_nc (by decide)]
  have tc : ∀ c j, c ≠ 0 → c ≠ 9 → gI t c j = gI s c j := fun c j p q => by rw [← ht, own_nc p, own_nc q]
  have t9 : ∀ p, p ≠ ix (gI s 0 18) → gI t 9 p = gI s 9 p := fun p hp => by rw [← ht, own_nc (by decide), own_ne (fun w => hp w.2)]
  have t9e : gI t 9 (ix (gI s 0 18)) = a := by rw [← ht, own_nc (by decide), own_eq]
  refine ⟨⟨?_, ?_, ?_, fun r => ?_, fun r => ?_, fun r j hr hj => ?_, fun p hp => ?_⟩, ?_, ?_⟩
  · rw [t0 15 (by decide), t0 16 (by decide)]; exact y15
  · rw [t0 17 (by decide)]; exact y17
  · rw [t18, u1]; omega
  · rw [tc 1 _ (by decide) (by decide)]; exact y1 r
  · rw [tc 2 _ (by decide) (by decide)]; exact y2 r
  · rw [t0 17 (by decide)] at hr
    rw [tc 2 _ (by decide) (by decide)] at hj
    rw [tc 3 _ (by decide) (by decide)]; exact y3 r j hr hj
  · rw [t18, u1] at hp
    by_cases q : p = ix (gI s 0 18)
    · subst q; rw [t9e]; exact ha
    · rw [t9 p q]; exact y9 p (by omega)
  · unfold own_A1
    simp only [t0 20 (by decide), tc 8 _ (show (8 : Nat) ≠ 0 by decide) (by decide)]
    exact a1
  · unfold own_A2
    simp only [t0 17 (by decide), tc 1 _ (show (1 : Nat) ≠ 0 by decide) (by decide), tc 4 _ (show (4 : Nat) ≠ 0 by decide) (by decide), tc 5 _ (show (5 : Nat) ≠ 0 by decide) (by decide)]
    exact a2

/-! the law's readings of the script -/
def own_cl (N : Nat) (sg : Nat → Int32) (k : Nat) : Int32 := if k < N then sg k else 0
def own_nN (N : Nat) (sg : Nat → Int32) : Int32 := 1 + (own_cl N sg 0 &&& 3)
def own_nT (N : Nat) (sg : Nat → Int32) : Int32 := 1 + (own_cl N sg 1 &&& 3)
def own_nR (N : Nat) (sg : Nat → Int32) : Int32 := 1 + (own_cl N sg 2 &&& 7)
def own_lh (N : Nat) (sg : Nat → Int32) (r : Nat) : Int32 := (own_cl N sg (3 + 8 * r) &&& 255) % own_nN N sg
def own_ln (N : Nat) (sg : Nat → Int32) (r : Nat) : Int32 := (own_cl N sg (4 + 8 * r) &&& 255) % 5
def own_sy (N : Nat) (sg : Nat → Int32) (r j : Nat) : Int32 := if ((own_cl N sg (5 + 8 * r + j) &&& 65535) &&& 1) = 0 then 1 + (Jvm.Free.XT.ushr (own_cl N sg (5 + 8 * r + j) &&& 65535) 1 % own_nT N sg) else 16 + (Jvm.Free.XT.ushr (own_cl N sg (5 + 8 * r + j) &&& 65535) 1 % own_nN N sg)
def own_to (N : Nat) (sg : Nat → Int32) (p : Nat) : Int32 := 1 + ((own_cl N sg (68 + p) &&& 255) % own_nT N sg)
theorem own_m3 (x : Int32) : 0 ≤ (x &&& 3).toInt ∧ (x &&& 3).toInt < 4 := by
  have := Jvm.Kit.i32_mask x 3 (k := 2) (by decide) (by decide)
  rw [this]; omega
theorem own_m7 (x : Int32) : 0 ≤ (x &&& 7).toInt ∧ (x &&& 7).toInt < 8 := by
  have := Jvm.Kit.i32_mask x 7 (k := 3) (by decide) (by decide)
  rw [this]; omega
theorem own_m31 (x : Int32) : 0 ≤ (x &&& 31).toInt ∧ (x &&& 31).toInt < 32 := by
  have := Jvm.Kit.i32_mask x 31 (k := 5) (by decide) (by decide)
  rw [this]; omega
theorem own_m255 (x : Int32) : 0 ≤ (x &&& 255).toInt ∧ (x &&& 255).toInt < 256 := by
  have := Jvm.Kit.i32_mask x 255 (k := 8) (by decide) (by decide)
  rw [this]; omega
theorem own_m64k (x : Int32) : 0 ≤ (x &&& 65535).toInt ∧ (x &&& 65535).toInt < 65536 := by
  have := Jvm.Kit.i32_mask x 65535 (k := 16) (by decide) (by decide)
  rw [this]; omega
theorem own_rem {x m : Int32} (hx : 0 ≤ x.toInt) (hm : 1 ≤ m.toInt ∧ m.toInt ≤ 1000) : 0 ≤ (x % m).toInt ∧ (x % m).toInt < m.toInt := by
  have a : (x % m).toInt = x.toInt.tmod m.toInt := Int32.toInt_mod x m
  rw [Int.tmod_eq_emod_of_nonneg hx] at a
  rw [a]
  exact ⟨Int.emod_nonneg _ (by omega), Int.emod_lt_of_pos _ (by omega)⟩
theorem own_nNr (N : Nat) (sg : Nat → Int32) : 1 ≤ (own_nN N sg).toInt ∧ (own_nN N sg).toInt ≤ 4 := by
  have a := own_m3 (own_cl N sg 0)
  have e : (1 + (own_cl N sg 0 &&& 3)).toInt = 1 + (own_cl N sg 0 &&& 3).toInt := by rw [i32_add] <;> simp <;> omega
  unfold own_nN; omega
theorem own_nTr (N : Nat) (sg : Nat → Int32) : 1 ≤ (own_nT N sg).toInt ∧ (own_nT N sg).toInt ≤ 4 := by
  have a := own_m3 (own_cl N sg 1)
  have e : (1 + (own_cl N sg 1 &&& 3)).toInt = 1 + (own_cl N sg 1 &&& 3).toInt := by rw [i32_add] <;> simp <;> omega
  unfold own_nT; omega
theorem own_nRr (N : Nat) (sg : Nat → Int32) : 1 ≤ (own_nR N sg).toInt ∧ (own_nR N sg).toInt ≤ 8 := by
  have a := own_m7 (own_cl N sg 2)
  have e : (1 + (own_cl N sg 2 &&& 7)).toInt = 1 + (own_cl N sg 2 &&& 7).toInt := by rw [i32_add] <;> simp <;> omega
  unfold own_nR; omega
theorem own_lhr (N : Nat) (sg : Nat → Int32) (r : Nat) : 0 ≤ (own_lh N sg r).toInt ∧ (own_lh N sg r).toInt < (own_nN N sg).toInt := by
  have n := own_nNr N sg
  exact own_rem (own_m255 _).1 ⟨n.1, by omega⟩
theorem own_lnr (N : Nat) (sg : Nat → Int32) (r : Nat) : 0 ≤ (own_ln N sg r).toInt ∧ (own_ln N sg r).toInt ≤ 4 := by
  have := own_rem (x := own_cl N sg (4 + 8 * r) &&& 255) (m := 5) (own_m255 _).1 (by decide)
  have e : (5 : Int32).toInt = 5 := by decide
  unfold own_ln; omega
theorem own_us1 {x : Int32} (h : 0 ≤ x.toInt) : 0 ≤ (Jvm.Free.XT.ushr x 1).toInt := by
  have z : (Jvm.Free.XT.ushr x 1).toBitVec.getLsbD 31 = false := by
    unfold Jvm.Free.XT.ushr
    show ((x.toUInt32 >>> ((1 : Int32) &&& 31).toUInt32).toBitVec).getLsbD 31 = false
    have e : (((1 : Int32) &&& 31).toUInt32).toBitVec % 32 = 1#32 := by decide
    rw [UInt32.toBitVec_shiftRight, e]
    simp
  have m : (Jvm.Free.XT.ushr x 1).toBitVec.msb = false := by
    rw [BitVec.msb_eq_getLsbD_last]; exact z
  show 0 ≤ (Jvm.Free.XT.ushr x 1).toBitVec.toInt
  rw [BitVec.toInt_eq_msb_cond, m]
  simp
theorem own_syr (N : Nat) (sg : Nat → Int32) (r j : Nat) : (1 ≤ (own_sy N sg r j).toInt ∧ (own_sy N sg r j).toInt ≤ (own_nT N sg).toInt) ∨ (16 ≤ (own_sy N sg r j).toInt ∧ (own_sy N sg r j).toInt < 16 + (own_nN N sg).toInt) := by
  have n := own_nNr N sg
  have t := own_nTr N sg
  have u := own_us1 (own_m64k (own_cl N sg (5 + 8 * r + j))).1
  unfold own_sy
  split
  · left
    have w := own_rem u (m := own_nT N sg) ⟨t.1, by omega⟩
    generalize Jvm.Free.XT.ushr (own_cl N sg (5 + 8 * r + j) &&& 65535) 1 % own_nT N sg = y at w
    have e : (1 + y).toInt = 1 + y.toInt := by rw [i32_add] <;> simp <;> omega
    omega
  · right
    have w := own_rem u (m := own_nN N sg) ⟨n.1, by omega⟩
    generalize Jvm.Free.XT.ushr (own_cl N sg (5 + 8 * r + j) &&& 65535) 1 % own_nN N sg = y at w
    have e : (16 + y).toInt = 16 + y.toInt := by rw [i32_add] <;> simp <;> omega
    omega
theorem own_tor (N : Nat) (sg : Nat → Int32) (p : Nat) : 1 ≤ (own_to N sg p).toInt ∧ (own_to N sg p).toInt ≤ (own_nT N sg).toInt := by
  have t := own_nTr N sg
  have w := own_rem (own_m255 (own_cl N sg (68 + p))).1 (m := own_nT N sg) ⟨t.1, by omega⟩
  unfold own_to
  generalize (own_cl N sg (68 + p) &&& 255) % own_nT N sg = y at w
  have e : (1 + y).toInt = 1 + y.toInt := by rw [i32_add] <;> simp <;> omega
  omega
/-- the law's readers -/
theorem own_c2 (N : Nat) (sg : Nat → Int32) (hN : N ≤ 260) (k : Int32) {n : Nat} (hk : k.toInt = n) (s : St) (Q : Int32 → Wd → Prop) (h : Q (own_cl N sg n) (W1 s)) : lalI PP QQ (some (N, sg)) 2 [.ref 0, .int k] (W1 s) Q := by
  have eN : (Int32.ofNat N).toInt = N := Int32.toInt_ofNat_of_lt (by omega)
  have x := ix_int (i := k) (by omega)
  have e : ix k = n := by omega
  unfold own_cl at h
  refine l2r0W1_in _ _ _ _ _ ⟨fun l => ⟨⟨by omega, by rw [i32_lt, eN] at l; exact l⟩, ?_⟩, fun l => ?_⟩
  · rw [i32_lt, eN] at l
    rw [if_pos (by omega)] at h
    rw [e]; exact h
  · rw [i32_lt, eN] at l
    rw [if_neg (by omega)] at h; exact h
theorem own_c2p (N : Nat) (sg : Nat → Int32) (hN : N ≤ 260) (k : Int32) {n : Nat} (hk : k.toInt = n) (Q : Int32 → Wd → Prop) (h : Q (own_cl N sg n) W0p) : lalI PP QQ (some (N, sg)) 2 [.ref 0, .int k] W0p Q := by
  have eN : (Int32.ofNat N).toInt = N := Int32.toInt_ofNat_of_lt (by omega)
  have x := ix_int (i := k) (by omega)
  have e : ix k = n := by omega
  unfold own_cl at h
  refine l2r0W0p_in _ _ _ _ ⟨fun l => ⟨⟨by omega, by rw [i32_lt, eN] at l; exact l⟩, ?_⟩, fun l => ?_⟩
  · rw [i32_lt, eN] at l
    rw [if_pos (by omega)] at h
    rw [e]; exact h
  · rw [i32_lt, eN] at l
    rw [if_neg (by omega)] at h; exact h
theorem own_nz {x : Int32} (h : 1 ≤ x.toInt) : ¬ x = 0 := fun w => by
  have : x.toInt = 0 := by rw [w]; decide
  omega
theorem own_l3 (N : Nat) (sg : Nat → Int32) (hN : N ≤ 260) (s : St) (Q : Int32 → Wd → Prop) (h : Q (own_nN N sg) (W1 s)) : lalI PP QQ (some (N, sg)) 3 [.ref 0] (W1 s) Q := l3r0W1_in _ _ _ _ (own_c2 N sg hN _ (n := 0) rfl _ _ ⟨s, rfl, h⟩)
theorem own_l4 (N : Nat) (sg : Nat → Int32) (hN : N ≤ 260) (s : St) (Q : Int32 → Wd → Prop) (h : Q (own_nT N sg) (W1 s)) : lalI PP QQ (some (N, sg)) 4 [.ref 0] (W1 s) Q := l4r0W1_in _ _ _ _ (own_c2 N sg hN _ (n := 1) rfl _ _ ⟨s, rfl, h⟩)
theorem own_8r {r a : Int32} {n k : Nat} (hr : r.toInt = n) (hn : n ≤ 100) (ha : a.toInt = k) (hk : k ≤ 200) : (a + 8 * r).toInt = ((k + 8 * n : Nat) : Int) := by
  have e : (8 * r).toInt = 8 * r.toInt := i32_mul (x := 8) (y := r) (by show (-2147483648 : Int) ≤ 8 * r.toInt; omega) (by show 8 * r.toInt < (2147483648 : Int); omega)
  rw [i32_add (by omega) (by omega), e]; omega
theorem own_l6 (N : Nat) (sg : Nat → Int32) (hN : N ≤ 260) (r : Int32) {n : Nat} (hr : r.toInt = n) (hn : n ≤ 100) (s : St) (Q : Int32 → Wd → Prop) (h : Q (own_lh N sg n) (W1 s)) : lalI PP QQ (some (N, sg)) 6 [.ref 0, .int r] (W1 s) Q := by
  have z := own_nz (own_nNr N sg).1
  exact l6r0W1_in _ _ _ _ _ (own_c2 N sg hN _ (own_8r hr hn (k := 3) rfl (by omega)) _ _ ⟨s, rfl, own_l3 N sg hN s _ ⟨s, rfl, z, h⟩⟩)
theorem own_l7 (N : Nat) (sg : Nat → Int32) (hN : N ≤ 260) (r : Int32) {n : Nat} (hr : r.toInt = n) (hn : n ≤ 100) (s : St) (Q : Int32 → Wd → Prop) (h : Q (own_ln N sg n) (W1 s)) : lalI PP QQ (some (N, sg)) 7 [.ref 0, .int r] (W1 s) Q :=
  l7r0W1_in _ _ _ _ _ (own_c2 N sg hN _ (own_8r hr hn (k := 4) rfl (by omega)) _ _ ⟨s, rfl, h⟩)
theorem own_l8 (N : Nat) (sg : Nat → Int32) (hN : N ≤ 260) (r j : Int32) {n k : Nat} (hr : r.toInt = n) (hn : n ≤ 100) (hj : j.toInt = k) (hk : k ≤ 100) (s : St) (Q : Int32 → Wd → Prop) (h : Q (own_sy N sg n k) (W1 s)) : lalI PP QQ (some (N, sg)) 8 [.ref 0, .int r, .int j] (W1 s) Q := by
  have z := own_nz (own_nNr N sg).1
  have z' := own_nz (own_nTr N sg).1
  have e := own_8r hr hn (k := 5) (a := 5) rfl (by omega)
  have e2 : ((5 + 8 * r) + j).toInt = ((5 + 8 * n + k : Nat) : Int) := by rw [i32_add (by omega) (by omega)]; omega
  unfold own_sy at h
  refine l8r0W1_in _ _ _ _ _ _ (own_c2 N sg hN _ e2 _ _ ⟨s, rfl, fun c => own_l4 N sg hN s _ ⟨s, rfl, z', ?_⟩, fun c => own_l3 N sg hN s _ ⟨s, rfl, z, ?_⟩⟩)
  · rw [if_pos c] at h; exact h
  · rw [if_neg c] at h; exact h
theorem own_l9 (N : Nat) (sg : Nat → Int32) (hN : N ≤ 260) (p : Int32) {n : Nat} (hp : p.toInt = n) (hn : n ≤ 100) (s : St) (Q : Int32 → Wd → Prop) (h : Q (own_to N sg n) (W1 s)) : lalI PP QQ (some (N, sg)) 9 [.ref 0, .int p] (W1 s) Q := by
  have z' := own_nz (own_nTr N sg).1
  have e : (68 + p).toInt = ((68 + n : Nat) : Int) := by rw [i32_add (by show (-2147483648 : Int) ≤ (68 : Int) + _; omega) (by show (68 : Int) + _ < (2147483648 : Int); omega)]; show (68 : Int) + _ = _; omega
  exact l9r0W1_in _ _ _ _ _ (own_c2 N sg hN _ e _ _ ⟨s, rfl, own_l4 N sg hN s _ ⟨s, rfl, z', h⟩⟩)

/-! the grammar and the tokens are typed in -/
def own_Gs (N : Nat) (sg : Nat → Int32) (r l k : Nat) (s : St) : Prop := own_A s ∧ (gI s 0 15 = own_nN N sg ∧ gI s 0 16 = own_nT N sg ∧ gI s 0 24 = 0 ∧ gI s 0 25 = 0 ∧ gI s 0 21 = 0) ∧ (gI s 0 17).toInt = r ∧ (∀ q, q < r → gI s 1 q = own_lh N sg q ∧ (gI s 2 q).toInt = (if q + 1 = r then (l : Int) else (own_ln N sg q).toInt) ∧ ∀ j : Nat, (j : Int) < (gI s 2 q).toInt → gI s 3 (q * 6 + j) = own_sy N sg q j) ∧ (gI s 0 18).toInt = k ∧ (∀ p, p < k → gI s 9 p = own_to N sg p)
theorem own_g3 {N : Nat} {sg : Nat → Int32} {r k : Nat} {s : St} (G : own_Gs N sg r (ix (own_ln N sg (r - 1))) k s) (hr : r < 16) (Q : Int32 → St → Prop) (h : ∀ v t, own_Gs N sg (r + 1) 0 k t → Q v t) : calI PP 3 14 [.ref 0, .int (own_lh N sg r)] s Q := by
  obtain ⟨A, ⟨e15, e16, e24, e25, e21⟩, e17, rl, e18, tk⟩ := G
  have lr := own_lhr N sg r
  have nN := own_nNr N sg
  have x17 := ix_int (i := gI s 0 17) (by omega)
  have i17 : ix (gI s 0 17) = r := by omega
  have u1 := own_u1 (x := gI s 0 17) ⟨by omega, by omega⟩
  refine own_z3 s _ e24 (by rw [e15]; exact lr) ⟨by omega, by omega⟩ _ (h _ _ ⟨own_A_3 A _ ⟨lr.1, by omega⟩ (by omega), ?_⟩)
  rw [i17]
  generalize ht : sI (sI (sI s 1 r (own_lh N sg r)) 2 r 0) 0 17 (gI s 0 17 + 1) = t
  have t17 : gI t 0 17 = gI s 0 17 + 1 := by rw [← ht, own_eq]
  have t0 : ∀ j, j ≠ 17 → gI t 0 j = gI s 0 j := fun j hj => by rw [← ht, own_ne (fun w => hj w.2), own_nc (by decide), own_nc (by decide)]
  have tc : ∀ c j, c ≠ 0 → c ≠ 1 → c ≠ 2 → gI t c j = gI s c j := fun c j p q r => by rw [← ht, own_nc p, own_nc r, own_nc q]
  have t1 : ∀ q, q ≠ r → gI t 1 q = gI s 1 q := fun q hq => by rw [← ht, own_nc (by decide), own_nc (by decide), own_ne (fun w => hq w.2)]
  have t1e : gI t 1 r = own_lh N sg r := by rw [← ht, own_nc (by decide), own_nc (by decide), own_eq]
  have t2 : ∀ q, q ≠ r → gI t 2 q = gI s 2 q := fun q hq => by rw [← ht, own_nc (by decide), own_ne (fun w => hq w.2), own_nc (by decide)]
  have t2e : gI t 2 r = 0 := by rw [← ht, own_nc (by decide), own_eq]
  have c0 : (0 : Int32).toInt = 0 := by decide
  refine ⟨⟨by rw [t0 15 (by decide)]; exact e15, by rw [t0 16 (by decide)]; exact e16, by rw [t0 24 (by decide)]; exact e24, by rw [t0 25 (by decide)]; exact e25, by rw [t0 21 (by decide)]; exact e21⟩, by rw [t17, u1]; omega, fun q hq => ?_, by rw [t0 18 (by decide)]; exact e18, fun p hp => by rw [tc 9 _ (by decide) (by decide) (by decide)]; exact tk p hp⟩
  by_cases c : q = r
  · subst c
    rw [t1e, t2e, c0, if_pos rfl]
    exact ⟨rfl, rfl, fun j hj => by omega⟩
  · have o := rl q (by omega)
    rw [t1 q c, t2 q c, if_neg (by omega)]
    refine ⟨o.1, ?_, fun j hj => by rw [tc 3 _ (by decide) (by decide) (by decide)]; exact o.2.2 j hj⟩
    rw [o.2.1]
    by_cases d : q + 1 = r
    · have l := own_lnr N sg q
      have xl := ix_int l.1
      have e : r - 1 = q := by omega
      rw [if_pos d, e]; omega
    · rw [if_neg d]
theorem own_g4 {N : Nat} {sg : Nat → Int32} {r l k : Nat} {s : St} (G : own_Gs N sg (r + 1) l k s) (hr : r < 16) (hl : l < 6) (Q : Int32 → St → Prop) (h : ∀ v t, own_Gs N sg (r + 1) (l + 1) k t → Q v t) : calI PP 4 14 [.ref 0, .int (own_sy N sg r l)] s Q := by
  obtain ⟨A, ⟨e15, e16, e24, e25, e21⟩, e17, rl, e18, tk⟩ := G
  have sr := own_syr N sg r l
  have nN := own_nNr N sg
  have nT := own_nTr N sg
  have d := own_d1 (x := gI s 0 17) ⟨by omega, by omega⟩
  have x17 := ix_int (i := gI s 0 17 - 1) (by omega)
  have i17 : ix (gI s 0 17 - 1) = r := by omega
  have o := rl r (by omega)
  rw [if_pos rfl] at o
  have vs : own_vs (own_sy N sg r l) := by
    rcases sr with q | q
    · exact Or.inl ⟨q.1, by omega⟩
    · exact Or.inr ⟨q.1, by omega⟩
  have xl := ix_int (i := gI s 2 r) (by omega)
  have u1 := own_u1 (x := gI s 2 r) ⟨by omega, by omega⟩
  refine own_z4 s A _ e24 (by omega) (by rw [i17]; omega) (by rw [e15, e16]; exact sr) _ (h _ _ ⟨own_A_4 A _ vs (by omega) (by rw [i17]; omega), ?_⟩)
  have rk := (own_rk (r := gI s 0 17 - 1) (j := gI s 2 r) ⟨by omega, by omega⟩ ⟨by omega, by omega⟩).2
  rw [i17, rk, i17]
  generalize ht : sI (sI s 3 (r * 6 + ix (gI s 2 r)) (own_sy N sg r l)) 2 r (gI s 2 r + 1) = t
  have tc : ∀ c j, c ≠ 2 → c ≠ 3 → gI t c j = gI s c j := fun c j p q => by rw [← ht, own_nc p, own_nc q]
  have t2 : ∀ q, q ≠ r → gI t 2 q = gI s 2 q := fun q hq => by rw [← ht, own_ne (fun w => hq w.2), own_nc (by decide)]
  have t2e : gI t 2 r = gI s 2 r + 1 := by rw [← ht, own_eq]
  have t3 : ∀ j, j ≠ r * 6 + ix (gI s 2 r) → gI t 3 j = gI s 3 j := fun j hj => by rw [← ht, own_nc (by decide), own_ne (fun w => hj w.2)]
  have t3e : gI t 3 (r * 6 + ix (gI s 2 r)) = own_sy N sg r l := by rw [← ht, own_nc (by decide), own_eq]
  refine ⟨⟨by rw [tc 0 _ (by decide) (by decide)]; exact e15, by rw [tc 0 _ (by decide) (by decide)]; exact e16, by rw [tc 0 _ (by decide) (by decide)]; exact e24, by rw [tc 0 _ (by decide) (by decide)]; exact e25, by rw [tc 0 _ (by decide) (by decide)]; exact e21⟩, by rw [tc 0 _ (by decide) (by decide)]; exact e17, fun q hq => ?_, by rw [tc 0 _ (by decide) (by decide)]; exact e18, fun p hp => by rw [tc 9 _ (by decide) (by decide)]; exact tk p hp⟩
  rw [tc 1 _ (by decide) (by decide)]
  have oq := rl q hq
  by_cases c : q = r
  · subst c
    rw [t2e, u1, if_pos rfl]
    refine ⟨oq.1, by omega, fun j hj => ?_⟩
    by_cases e : j = ix (gI s 2 q)
    · subst e
      rw [t3e]
      congr 1; omega
    · rw [t3 _ (by omega)]
      exact oq.2.2 j (by omega)
  · rw [t2 q c]
    rw [if_neg (by omega)] at oq ⊢
    refine ⟨oq.1, oq.2.1, fun j hj => ?_⟩
    have := A.1.2.2.2.2.1 q
    rw [t3 _ (by omega)]
    exact oq.2.2 j hj
theorem own_g21 {N : Nat} {sg : Nat → Int32} {r l k : Nat} {s : St} (G : own_Gs N sg r l k s) (hk : k < 32) (Q : Int32 → St → Prop) (h : ∀ t, own_Gs N sg r l (k + 1) t → Q 1 t) : calI PP 21 14 [.ref 0, .int (own_to N sg k)] s Q := by
  obtain ⟨A, ⟨e15, e16, e24, e25, e21⟩, e17, rl, e18, tk⟩ := G
  have tr := own_tor N sg k
  have nT := own_nTr N sg
  have x18 := ix_int (i := gI s 0 18) (by omega)
  have i18 : ix (gI s 0 18) = k := by omega
  have u1 := own_u1 (x := gI s 0 18) ⟨by omega, by omega⟩
  refine own_z21 s _ e25 ⟨by omega, by omega⟩ (by rw [e16]; exact tr) _ (h _ ⟨own_A_21 A _ ⟨tr.1, by omega⟩ (by omega), ?_⟩)
  rw [i18]
  generalize ht : sI (sI s 9 k (own_to N sg k)) 0 18 (gI s 0 18 + 1) = t
  have t18 : gI t 0 18 = gI s 0 18 + 1 := by rw [← ht, own_eq]
  have t0 : ∀ j, j ≠ 18 → gI t 0 j = gI s 0 j := fun j hj => by rw [← ht, own_ne (fun w => hj w.2), own_nc (by decide)]
  have tc : ∀ c j, c ≠ 0 → c ≠ 9 → gI t c j = gI s c j := fun c j p q => by rw [← ht, own_nc p, own_nc q]
  have t9 : ∀ p, gI t 9 p = if p = k then own_to N sg k else gI s 9 p := fun p => by
    rw [← ht, own_nc (by decide), gI_sI]
    by_cases c : p = k
    · rw [if_pos ⟨rfl, c⟩, if_pos c]
    · rw [if_neg (fun w => c w.2), if_neg c]
  refine ⟨⟨by rw [t0 15 (by decide)]; exact e15, by rw [t0 16 (by decide)]; exact e16, by rw [t0 24 (by decide)]; exact e24, by rw [t0 25 (by decide)]; exact e25, by rw [t0 21 (by decide)]; exact e21⟩, by rw [t0 17 (by decide)]; exact e17, fun q hq => ?_, by rw [t18, u1]; omega, fun p hp => ?_⟩
  · rw [tc 1 _ (by decide) (by decide), tc 2 _ (by decide) (by decide)]
    have o := rl q hq
    exact ⟨o.1, o.2.1, fun j hj => by rw [tc 3 _ (by decide) (by decide)]; exact o.2.2 j hj⟩
  · rw [t9]
    by_cases c : p = k
    · rw [if_pos c, c]
    · rw [if_neg c]; exact tk p (by omega)
/-- after parse -/
def own_Fi (N : Nat) (sg : Nat → Int32) (w : Nat) (u : St) : Prop := own_K u ∧ own_X u ∧ (gI u 0 17 = own_nR N sg) ∧ (∀ q : Nat, (q : Int) < (own_nR N sg).toInt → gI u 1 q = own_lh N sg q ∧ gI u 2 q = own_ln N sg q ∧ ∀ j : Nat, (j : Int) < (own_ln N sg q).toInt → gI u 3 (q * 6 + j) = own_sy N sg q j) ∧ ((gI u 0 18).toInt = w ∧ w < 32) ∧ (∀ p, p < w → gI u 9 p = own_to N sg p) ∧ gI u 0 22 = 0 ∧ gI u 0 23 = gI u 0 18
theorem own_Fi_of {N : Nat} {sg : Nat → Int32} {r l k : Nat} {s t u : St} (G : own_Gs N sg r l k s) (hr : (r : Int) = (own_nR N sg).toInt) (hl : l = ix (own_ln N sg (r - 1))) (hk : k < 32) (fr : ∀ c j, c ≠ 4 → c ≠ 5 → c ≠ 6 → c ≠ 7 → c ≠ 8 → ¬ (c = 0 ∧ (j = 20 ∨ j = 24)) → gI t c j = gI s c j) (L : own_L (sI t 0 25 1) u) (z : gI u 0 22 = 0) (e : gI u 0 23 = gI u 0 18) : own_Fi N sg k u := by
  obtain ⟨A, ⟨e15, e16, e24, e25, e21⟩, e17, rl, e18, tk⟩ := G
  have u0 : ∀ j, j ≠ 19 → j ≠ 20 → j ≠ 21 → j ≠ 22 → j ≠ 23 → j ≠ 24 → j ≠ 25 → gI u 0 j = gI s 0 j := fun j a b c d e f g => by rw [L.1 0 j (by decide) (by omega), own_ne (fun w => g w.2), fr 0 j (by decide) (by decide) (by decide) (by decide) (by decide) (by omega)]
  have uc : ∀ c j, c = 1 ∨ c = 2 ∨ c = 3 ∨ c = 9 → gI u c j = gI s c j := fun c j h => by rw [L.1 c j (by omega) (by omega), own_nc (by omega), fr c j (by omega) (by omega) (by omega) (by omega) (by omega) (by omega)]
  refine ⟨L.2.1, L.2.2, ?_, fun q hq => ?_, ⟨by rw [u0 18 (by decide) (by decide) (by decide) (by decide) (by decide) (by decide) (by decide)]; exact e18, hk⟩, fun p hp => by rw [uc 9 _ (by decide)]; exact tk p hp, z, e⟩
  · rw [u0 17 (by decide) (by decide) (by decide) (by decide) (by decide) (by decide) (by decide)]
    exact (i32_eq).mpr (by omega)
  · have o := rl q (by omega)
    have e2 : gI s 2 q = own_ln N sg q := by
      refine (i32_eq).mpr ?_
      rw [o.2.1]
      by_cases d : q + 1 = r
      · have ll := own_lnr N sg q
        have xl := ix_int ll.1
        have e' : r - 1 = q := by omega
        rw [if_pos d, hl, e']; omega
      · rw [if_neg d]
    rw [uc 1 _ (by decide), uc 2 _ (by decide)]
    exact ⟨o.1, e2, fun j hj => by rw [uc 3 _ (by decide)]; exact o.2.2 j (by rw [e2]; exact hj)⟩

/-! queries -/
theorem own_qn (s : St) (k : Int32) (hk : 0 ≤ k.toInt ∧ k.toInt < (gI s 0 19).toInt) (n256 : (gI s 0 19).toInt ≤ 256) (Q : Int32 → St → Prop) : (Q (gI s 10 (ix k)) s → calI PP 35 14 [.ref 0, .int k] s Q) ∧ (Q (gI s 11 (ix k)) s → calI PP 36 14 [.ref 0, .int k] s Q) ∧ (Q (gI s 12 (ix k)) s → calI PP 37 14 [.ref 0, .int k] s Q) := by
  have ib : inb 256 k := ⟨hk.1, by show _ < (256 : Int); omega⟩
  have n0 : ¬ k < 0 := by rw [own_lt0]; omega
  have n1 : k < gI s 0 19 := by rw [i32_lt]; exact hk.2
  have n2 : k < 256 := by rw [own_lt256]; omega
  refine ⟨fun h => ?_, fun h => ?_, fun h => ?_⟩
  · apply c35_in
    exact ⟨fun z => absurd z n0, fun _ => ⟨fun _ => ⟨fun _ => ⟨ib, h⟩, fun z => absurd n2 z⟩, fun z => absurd n1 z⟩⟩
  · apply c36_in
    exact ⟨fun z => absurd z n0, fun _ => ⟨fun _ => ⟨fun _ => ⟨ib, h⟩, fun z => absurd n2 z⟩, fun z => absurd n1 z⟩⟩
  · apply c37_in
    exact ⟨fun z => absurd z n0, fun _ => ⟨fun _ => ⟨fun _ => ⟨ib, h⟩, fun z => absurd n2 z⟩, fun z => absurd n1 z⟩⟩
theorem own_gt64 {x : Int32} : (64 : Int32) < x ↔ 64 < x.toInt := i32_lt
theorem own_c64 : (64 : Int32).toInt = 64 := by decide
theorem own_q33 (s : St) (k : Int32) (k0 : 0 ≤ k.toInt) (Q : Int32 → St → Prop) (h0 : ¬ (k.toInt < 64 ∧ k.toInt < (gI s 0 21).toInt) → Q (-1) s) (h : k.toInt < 64 → k.toInt < (gI s 0 21).toInt → Q (gI s 14 (ix k)) s) : calI PP 33 14 [.ref 0, .int k] s Q := by
  apply c33_in
  intro m hm
  have em : k < m ↔ (k.toInt < 64 ∧ k.toInt < (gI s 0 21).toInt) := by
    rw [i32_lt, hm]
    split
    · rename_i g
      rw [own_gt64] at g
      rw [own_c64]; omega
    · rename_i g
      rw [own_gt64] at g
      omega
  refine ⟨fun z => absurd z (by rw [own_lt0]; omega), fun _ => ⟨fun lt => ?_, fun lt => h0 (fun q => lt (em.mpr q))⟩⟩
  have q := em.mp lt
  exact ⟨⟨k0, q.1⟩, h q.1 q.2⟩

/-! each token once -/
theorem own_lt4a {x : Int32} : x < 16 ↔ x.toInt < 16 := i32_lt
theorem own_bump {x : Int32} {n : Nat} (h : x.toInt = n) (hn : n ≤ 1000) : (x + 1).toInt = ((n + 1 : Nat) : Int) := by rw [i32_add] <;> simp <;> omega
theorem own_l637 (N : Nat) (sg : Nat → Int32) (hN : N ≤ 260) (w : Nat) (u : St) (F : own_Fi N sg w u) (x4 : Int32) (h4 : x4.toInt = w) (R : Int32 → Wd → Prop) (h : R 1 (W1 u)) : wplI PP QQ (some (N, sg)) 0 lm0 637 [some (.ref 0), some (.ref 1), none, none, some (.int x4), none, none, some (.int (gI u 0 19)), some (.int (gI u 0 21)), none, none, none, none, none, none, none, none, none, none, none, none] [] (W1 u) R := by
  obtain ⟨K, X, e17, rl, ⟨e18, w32⟩, tk, e22, e23⟩ := F
  obtain ⟨k19, k22, k23, k21, k0, kn, ks, kj, km, ke⟩ := id K
  obtain ⟨x1, x2, x3, x4', x5, x6, x7⟩ := id X
  have eN := ix_int (i := gI u 0 19) (by omega)
  have eE := ix_int k21.1
  have q := fun (i : Int32) (h : 0 ≤ i.toInt ∧ i.toInt < (gI u 0 19).toInt) Q => own_qn u i h k19.2 Q
  refine l0_637 _ _ _ _ _ _ ⟨fun _ => h, fun le => ?_⟩
  rw [own_gt64] at le
  refine loop_up (F := fun p => wplI PP QQ (some (N, sg)) 0 lm0 647 [some (.ref 0), some (.ref 1), none, none, some (.int x4), none, none, some (.int (gI u 0 19)), some (.int (gI u 0 21)), none, none, none, none, none, some (.int p), none, none, none, none, none, none] [] (W1 u) R) w (by omega) (fun p p0 p1 e ih => ?_) (fun p hp => l0_647 _ _ _ _ _ _ _ ⟨fun z => absurd z (by rw [i32_lt]; omega), fun _ => h⟩) 0 (by decide) (by simp)
  have xp := ix_int p0
  have ep : p = Int32.ofNat (ix p) := own_n32 (by omega)
  have tot := x5 (by omega) (ix p) (by omega)
  rw [if_pos (by rw [e23, e18]; omega)] at tot
  -- the errors
  have errs : ∀ y : Int32, y.toInt = ((own_ct (own_nb u (ix p)) (ix (gI u 0 19)) : Nat) : Int) → wplI PP QQ (some (N, sg)) 0 lm0 711 [some (.ref 0), some (.ref 1), none, none, some (.int x4), none, none, some (.int (gI u 0 19)), some (.int (gI u 0 21)), none, none, none, none, none, some (.int p), some (.int y), some (.int (0 : Int32)), none, none, none, none] [] (W1 u) R := by
    intro y hy
    refine loop_up (F := fun k => ∀ y : Int32, y.toInt = ((own_ct (own_nb u (ix p)) (ix (gI u 0 19)) + own_ct (own_eb u (ix p)) (ix k) : Nat) : Int) → wplI PP QQ (some (N, sg)) 0 lm0 711 [some (.ref 0), some (.ref 1), none, none, some (.int x4), none, none, some (.int (gI u 0 19)), some (.int (gI u 0 21)), none, none, none, none, none, some (.int p), some (.int y), some (.int k), none, none, none, none] [] (W1 u) R) (gI u 0 21).toInt (by omega) (fun k k0' k1 ek ihk y hy => ?_) (fun k hk y hy => ?_) 0 (by decide) (by simpa using k21.1) y hy
    · have xk := ix_int k0'
      have xk1 := ix_int (i := k + 1) (by omega)
      have k1x : ix (k + 1) = ix k + 1 := by omega
      have er := x6 (ix k) (by omega) (by omega)
      have step : own_ct (own_eb u (ix p)) (ix (k + 1)) = own_ct (own_eb u (ix p)) (ix k) + (if own_eb u (ix p) (ix k) then 1 else 0) := by rw [k1x]; rfl
      have bd : own_ct (own_nb u (ix p)) (ix (gI u 0 19)) + own_ct (own_eb u (ix p)) (ix k) ≤ 1000 := by
        have a1 : ∀ (f : Nat → Bool) n, own_ct f n ≤ n := fun f n => by
          induction n with
          | zero => exact Nat.le_refl _
          | succ n ih =>
            show own_ct f n + (if f n then 1 else 0) ≤ n + 1
            split <;> omega
        have := a1 (own_nb u (ix p)) (ix (gI u 0 19))
        have := a1 (own_eb u (ix p)) (ix k)
        omega
      have no : own_eb u (ix p) (ix k) = false → wplI PP QQ (some (N, sg)) 0 lm0 769 [some (.ref 0), some (.ref 1), none, none, some (.int x4), none, none, some (.int (gI u 0 19)), some (.int (gI u 0 21)), none, none, none, none, none, some (.int p), some (.int y), some (.int k), none, none, none, none] [] (W1 u) R := fun z => l0_769 _ _ _ _ _ _ _ _ _ (ihk y (by rw [step, z]; simpa using hy))
      refine l0_711 _ _ _ _ _ _ _ _ _ ⟨fun _ => own_q33 u k k0' _ (fun z => absurd ⟨by omega, k1⟩ z) fun _ _ => ⟨fun a => ⟨fun b => own_l9 N sg hN p (n := ix p) (by omega) (by omega) u _ ⟨u, rfl, fun _ => l0_769 _ _ _ _ _ _ _ _ _ (ihk _ ?_), fun z => absurd ?_ z⟩, fun b => no ?_⟩, fun a => no ?_⟩, fun z => absurd (by rw [i32_lt]; exact k1) z⟩
      · have c : own_eb u (ix p) (ix k) = true := by
          unfold own_eb
          rw [← ep]
          simp [a, b]
        rw [step, c, own_bump hy bd]
        simp; omega
      · rw [er a (ix p) (by omega) (by rw [← ep]; exact b)]
        exact tk (ix p) (by omega)
      · unfold own_eb
        rw [← ep]
        simp [b]
      · unfold own_eb
        simp [a]
    · have ek : k = gI u 0 21 := (i32_eq).mpr hk
      rw [ek, tot] at hy
      refine l0_711 _ _ _ _ _ _ _ _ _ ⟨fun z => absurd z (by rw [i32_lt]; omega), fun _ => ⟨fun _ => ih, fun z => absurd ((i32_eq).mpr hy) z⟩⟩
  refine l0_647 _ _ _ _ _ _ _ ⟨fun _ => ?_, fun z => absurd (by rw [i32_lt]; omega) z⟩
  refine loop_up (F := fun i => ∀ y : Int32, y.toInt = ((own_ct (own_nb u (ix p)) (ix i) : Nat) : Int) → (own_ct (own_nb u (ix p)) (ix i) ≤ ix i) → wplI PP QQ (some (N, sg)) 0 lm0 660 [some (.ref 0), some (.ref 1), none, none, some (.int x4), none, none, some (.int (gI u 0 19)), some (.int (gI u 0 21)), none, none, none, none, none, some (.int p), some (.int y), some (.int i), none, none, none, none] [] (W1 u) R) (gI u 0 19).toInt (by omega) (fun i i0 i1 ei ihi y hy ly => ?_) (fun i hi y hy ly => ?_) 0 (by decide) (by simp; omega) 0 rfl (Nat.le_refl _)
  · have xi := ix_int i0
    have xi1 := ix_int (i := i + 1) (by omega)
    have i1x : ix (i + 1) = ix i + 1 := by omega
    have nd := (kn (ix i) (by omega)).2.1
    have step : own_ct (own_nb u (ix p)) (ix (i + 1)) = own_ct (own_nb u (ix p)) (ix i) + (if own_nb u (ix p) (ix i) then 1 else 0) := by rw [i1x]; rfl
    have go : ∀ m : Int32, m.toInt = ((own_ct (own_nb u (ix p)) (ix i) + (if own_nb u (ix p) (ix i) then 1 else 0) : Nat) : Int) → wplI PP QQ (some (N, sg)) 0 lm0 702 [some (.ref 0), some (.ref 1), none, none, some (.int x4), none, none, some (.int (gI u 0 19)), some (.int (gI u 0 21)), none, none, none, none, none, some (.int p), some (.int m), some (.int i), none, none, none, none] [] (W1 u) R := fun m hm => l0_702 _ _ _ _ _ _ _ _ _ (ihi m (by rw [step]; exact hm) (by rw [step]; split <;> omega))
    refine l0_660 _ _ _ _ _ _ _ _ _ ⟨fun _ => (q i ⟨i0, i1⟩ _).1 ⟨fun z => absurd z (by rw [own_lt1]; have := own_vs0 nd; rcases nd with a | a <;> omega), fun _ => ⟨fun l => (q i ⟨i0, i1⟩ _).2.2 fun m hm => go m ?_, fun l => go y ?_⟩⟩, fun z => absurd (by rw [i32_lt]; exact i1) z⟩
    · rw [own_lt16] at l
      rw [hm]
      by_cases c : gI u 12 (ix i) = p
      · have b : own_nb u (ix p) (ix i) = true := by unfold own_nb; rw [← ep, c]; simp [l]
        rw [if_pos c, own_bump hy (by omega), b]; rfl
      · have b : own_nb u (ix p) (ix i) = false := by unfold own_nb; rw [← ep]; simp [c]
        rw [if_neg c, b, hy]; rfl
    · rw [own_lt16] at l
      have b : own_nb u (ix p) (ix i) = false := by unfold own_nb; simp [l]
      rw [b, hy]; rfl
  · have ei : i = gI u 0 19 := (i32_eq).mpr hi
    rw [ei] at hy
    exact l0_660 _ _ _ _ _ _ _ _ _ ⟨fun z => absurd z (by rw [i32_lt]; omega), fun _ => errs y hy⟩

/-! the law's walk through the tree -/
theorem own_gt0 {x : Int32} : (0 : Int32) < x ↔ 0 < x.toInt := i32_lt
/-- climbing -/
theorem own_climb (N : Nat) (sg : Nat → Int32) (u : St) (K : own_K u) (X : own_X u) (x4 x9 x10 x11 x13 : Int32) (R : Int32 → Wd → Prop) : ∀ (x : Nat), x < ix (gI u 0 19) → ∀ (xi g : Int32), xi.toInt = x → 0 ≤ g.toInt → g.toInt + x ≤ (gI u 0 19).toInt → (∀ y : Int32, y.toInt = own_nx u (ix (gI u 0 19)) x → wplI PP QQ (some (N, sg)) 0 lm0 616 [some (.ref 0), some (.ref 1), none, none, some (.int x4), none, none, some (.int (gI u 0 19)), some (.int (gI u 0 21)), some (.int x9), some (.int x10), some (.int x11), none, some (.int x13), none, none, some (.int y), none, none, none, none] [] (W1 u) R) → wplI PP QQ (some (N, sg)) 0 lm0 536 [some (.ref 0), some (.ref 1), none, none, some (.int x4), none, none, some (.int (gI u 0 19)), some (.int (gI u 0 21)), some (.int x9), some (.int x10), some (.int x11), none, some (.int x13), none, none, some (.int (-1 : Int32)), some (.int xi), some (.int g), none, none] [] (W1 u) R := by
  have pw := own_pwK K
  obtain ⟨k19, k22, k23, k21, k0, kn, ks, kj, km, ke⟩ := id K
  have x1 := X.1
  have eN := ix_int (i := gI u 0 19) (by omega)
  have q := fun (i : Int32) (h : 0 ≤ i.toInt ∧ i.toInt < (gI u 0 19).toInt) Q => own_qn u i h k19.2 Q
  intro x
  induction x using Nat.strongRecOn with
  | _ x ih =>
  intro hx xi g ex g0 gx h
  refine l0_536 _ _ _ _ _ _ _ _ _ _ _ _ _ ⟨fun _ => ⟨fun pos => ⟨fun z => absurd z (by rw [i32_lt]; rw [own_gt0] at pos; omega), fun _ => (q xi ⟨by omega, by omega⟩ _).2.1 ?_⟩, fun np => h _ ?_⟩, fun z => absurd (by decide) z⟩
  · rw [own_gt0] at pos
    have xx := ix_int (i := xi) (by omega)
    have exi : ix xi = x := by omega
    rw [exi]
    have pr := pw x (by omega) hx
    have xp := ix_int pr.1
    refine ⟨fun z => absurd z (by rw [own_lt0]; omega), fun _ => ?_⟩
    have ns := own_nx_s pw (x := x) (by omega) hx
    -- the parent's children
    have ch : ∀ j, x < j → j < ix (gI u 0 19) → gI u 11 j = gI u 11 x → x + 1 < ix (gI u 0 19) ∧ gI u 11 (x + 1) = gI u 11 x := fun j hj jn ej => by
      have cd := x1 (ix (gI u 11 x)) (by omega)
      by_cases e : own_ex u (ix (gI u 11 x))
      · obtain ⟨b, b1, b2, b3, b4⟩ := cd.1 e
        have a1 := (b3 x hx).mp (by omega)
        have a2 := (b3 j jn).mp (by rw [ej]; omega)
        have a3 := (b3 (x + 1) (by omega)).mpr ⟨by omega, by omega⟩
        exact ⟨by omega, (i32_eq).mpr (by omega)⟩
      · exact absurd (show (gI u 11 x).toInt = _ by omega) (cd.2 e x hx)
    have g1 : (g + 1).toInt = g.toInt + 1 := by rw [i32_add] <;> simp <;> omega
    have xi1 : (xi + 1).toInt = ((x + 1 : Nat) : Int) := by rw [i32_add] <;> simp <;> omega
    by_cases sib : x + 1 < ix (gI u 0 19) ∧ gI u 11 (x + 1) = gI u 11 x
    · rw [if_pos sib] at ns
      have x1i := ix_int (i := xi + 1) (by omega)
      have e1 : ix (xi + 1) = x + 1 := by omega
      refine l0_578 _ _ _ _ _ _ _ _ _ _ _ _ _ _ ⟨fun _ => (q (xi + 1) ⟨by omega, by omega⟩ _).2.1 ⟨fun _ => l0_609 _ _ _ _ _ _ _ _ _ _ _ _ _ (l0_536 _ _ _ _ _ _ _ _ _ _ _ _ _ ⟨fun z => absurd z (by rw [own_lt0]; omega), fun _ => h _ (by rw [ns]; exact xi1)⟩), fun z => absurd (by rw [e1]; exact sib.2) z⟩, fun z => absurd (by rw [i32_lt]; omega) z⟩
    · rw [if_neg sib] at ns
      refine loop_up (F := fun j => (x : Int) < j.toInt → wplI PP QQ (some (N, sg)) 0 lm0 578 [some (.ref 0), some (.ref 1), none, none, some (.int x4), none, none, some (.int (gI u 0 19)), some (.int (gI u 0 21)), some (.int x9), some (.int x10), some (.int x11), none, some (.int x13), none, none, some (.int (-1 : Int32)), none, some (.int (g + 1)), some (.int (gI u 11 x)), some (.int j)] [] (W1 u) R) (gI u 0 19).toInt (by omega) (fun j j0 j1 ej ihj hj => ?_) (fun j hj _ => ?_) (xi + 1) (by omega) (by omega) (by omega)
      · have xj := ix_int j0
        refine l0_578 _ _ _ _ _ _ _ _ _ _ _ _ _ _ ⟨fun _ => (q j ⟨j0, j1⟩ _).2.1 ⟨fun z => absurd (ch (ix j) (by omega) (by omega) z) sib, fun _ => ihj (by omega)⟩, fun z => absurd (by rw [i32_lt]; exact j1) z⟩
      · refine l0_578 _ _ _ _ _ _ _ _ _ _ _ _ _ _ ⟨fun z => absurd z (by rw [i32_lt]; omega), fun _ => l0_609 _ _ _ _ _ _ _ _ _ _ _ _ _ ?_⟩
        exact ih (ix (gI u 11 x)) (by omega) (by omega) (gI u 11 x) (g + 1) (by omega) (by omega) (by omega) (fun y hy => h y (by rw [ns]; exact hy))
  · rw [own_gt0] at np
    have z : x = 0 := by omega
    subst z
    rw [own_nx_0]; decide
theorem own_l388 (N : Nat) (sg : Nat → Int32) (hN : N ≤ 260) (w : Nat) (u : St) (F : own_Fi N sg w u) (x4 x9 : Int32) (h4 : x4.toInt = w) (st : x9 ≠ 0 → gI u 0 21 = 0) (R : Int32 → Wd → Prop) (h : R 1 (W1 u)) : wplI PP QQ (some (N, sg)) 0 lm0 388 [some (.ref 0), some (.ref 1), none, none, some (.int x4), none, none, some (.int (gI u 0 19)), some (.int (gI u 0 21)), some (.int x9), some (.int (-1 : Int32)), some (.int (0 : Int32)), some (.int (0 : Int32)), some (.int (0 : Int32)), none, none, none, none, none, none, none] [] (W1 u) R := by
  have l637 := own_l637 N sg hN w u F x4 h4 R h
  obtain ⟨K, X, e17, rl, ⟨e18, w32⟩, tk, e22, e23⟩ := F
  obtain ⟨k19, k22, k23, k21, k0, kn, ks, kj, km, ke⟩ := id K
  obtain ⟨x1, x2, x3, x4', x5, x6, x7⟩ := id X
  have eN := ix_int (i := gI u 0 19) (by omega)
  have q := fun (i : Int32) (h : 0 ≤ i.toInt ∧ i.toInt < (gI u 0 19).toInt) Q => own_qn u i h k19.2 Q
  have z22 : ix (gI u 0 22) = 0 := by rw [e22]; rfl
  rw [z22] at x3
  have top : own_top u = -1 := by unfold own_top; rw [z22, if_pos rfl]
  obtain ⟨o, o1, o2, o3, o4, o5, o6, o7⟩ := x3
  rw [Nat.sub_zero] at o1 o2 o3 o4 o5 o6 o7
  rw [top] at o3
  have l623 : ∀ y : Int32, (x9 ≠ 0 → y = x4) → wplI PP QQ (some (N, sg)) 0 lm0 623 [some (.ref 0), some (.ref 1), none, none, some (.int x4), none, none, some (.int (gI u 0 19)), some (.int (gI u 0 21)), some (.int x9), none, some (.int y), none, none, none, none, none, none, none, none, none] [] (W1 u) R := fun y hy => l0_623 _ _ _ _ _ _ _ _ ⟨fun _ => l637, fun n => ⟨fun _ => l637, fun z => absurd (hy n) z⟩⟩
  have key : ∀ (n t : Nat) (cu vi la xp : Int32), t + n = ix (gI u 0 19) → 0 < n → cu.toInt = o t → vi.toInt = t → la.toInt = own_lf u o t → xp.toInt = own_xf u o t → wplI PP QQ (some (N, sg)) 0 lm0 388 [some (.ref 0), some (.ref 1), none, none, some (.int x4), none, none, some (.int (gI u 0 19)), some (.int (gI u 0 21)), some (.int x9), some (.int la), some (.int xp), some (.int cu), some (.int vi), none, none, none, none, none, none, none] [] (W1 u) R := by
    intro n
    induction n with
    | zero => exact fun t cu vi la xp _ h0 => absurd h0 (by omega)
    | succ n ih =>
    intro t cu vi la xp hn _ hc hv hla hxp
    have ot := (o1 t (by omega)).1
    have xc := ix_int (i := cu) (by omega)
    have ec : ix cu = o t := by omega
    have nd := kn (o t) (by omega)
    have xfb : ∀ m, own_xf u o m ≤ m ∧ 0 ≤ own_xf u o m := fun m => by
      induction m with
      | zero => exact ⟨Int.le_refl _, Int.le_refl _⟩
      | succ m im =>
        show own_xf u o m + (if own_mb u (o m) then 1 else 0) ≤ ((m + 1 : Nat) : Int) ∧ 0 ≤ own_xf u o m + (if own_mb u (o m) then 1 else 0)
        split <;> omega
    have xb := xfb t
    have v1 : (vi + 1).toInt = ((t + 1 : Nat) : Int) := by rw [i32_add] <;> simp <;> omega
    -- the next node, once the values of the walk are right
    have next : ∀ la' xp' : Int32, la'.toInt = own_lf u o (t + 1) → xp'.toInt = own_xf u o (t + 1) → wplI PP QQ (some (N, sg)) 0 lm0 492 [some (.ref 0), some (.ref 1), none, none, some (.int x4), none, none, some (.int (gI u 0 19)), some (.int (gI u 0 21)), some (.int x9), some (.int la'), some (.int xp'), some (.int cu), some (.int (vi + 1)), none, none, none, none, none, none, none] [] (W1 u) R := fun la' xp' hl' hx' => by
      have fin : ∀ y : Int32, own_ad u (ix (gI u 0 19)) (o t) y.toInt ∧ (t + 1 < ix (gI u 0 19) → y.toInt = o (t + 1)) ∧ (t + 1 = ix (gI u 0 19) → y.toInt = -1) → wplI PP QQ (some (N, sg)) 0 lm0 616 [some (.ref 0), some (.ref 1), none, none, some (.int x4), none, none, some (.int (gI u 0 19)), some (.int (gI u 0 21)), some (.int x9), some (.int la'), some (.int xp'), none, some (.int (vi + 1)), none, none, some (.int y), none, none, none, none] [] (W1 u) R := fun y hy => by
        apply l0_616
        by_cases c : t + 1 < ix (gI u 0 19)
        · exact ih (t + 1) y (vi + 1) la' xp' (by omega) (by omega) (hy.2.1 c) v1 hl' hx'
        · have e := hy.2.2 (by omega)
          refine l0_388 _ _ _ _ _ _ _ _ _ _ _ ⟨fun _ => l623 xp' fun n9 => ?_, fun z => absurd (by rw [own_lt0]; omega) z⟩
          have oo := (o7 (st n9)).2
          have tt : t + 1 = ix (gI u 0 19) := by omega
          rw [← tt] at oo
          exact (i32_eq).mpr (by rw [hx', oo, e23, e18, h4])
      have adt : own_ad u (ix (gI u 0 19)) (o t) (if t + 1 < ix (gI u 0 19) then (o (t + 1) : Int) else -1) := by
        by_cases c : t + 1 < ix (gI u 0 19)
        · rw [if_pos c]; exact o4 t c
        · have w := (o3 (by omega)).2
          have e : ix (gI u 0 19) - 1 = t := by omega
          rw [e] at w
          rw [if_neg c]; exact w
      have two : ∀ y : Int32, y.toInt = (if t + 1 < ix (gI u 0 19) then (o (t + 1) : Int) else -1) → wplI PP QQ (some (N, sg)) 0 lm0 616 [some (.ref 0), some (.ref 1), none, none, some (.int x4), none, none, some (.int (gI u 0 19)), some (.int (gI u 0 21)), some (.int x9), some (.int la'), some (.int xp'), none, some (.int (vi + 1)), none, none, some (.int y), none, none, none, none] [] (W1 u) R := fun y hy => fin y ⟨by rw [hy]; exact adt, fun c => by rw [hy, if_pos c], fun c => by rw [hy, if_neg (by omega)]⟩
      apply l0_492
      rcases adt with ⟨m, em, f⟩ | ⟨nc, en⟩
      · -- the first child
        refine loop_up (F := fun j => j.toInt ≤ m → wplI PP QQ (some (N, sg)) 0 lm0 498 [some (.ref 0), some (.ref 1), none, none, some (.int x4), none, none, some (.int (gI u 0 19)), some (.int (gI u 0 21)), some (.int x9), some (.int la'), some (.int xp'), some (.int cu), some (.int (vi + 1)), none, none, some (.int (-1 : Int32)), some (.int j), none, none, none] [] (W1 u) R) (gI u 0 19).toInt (by omega) (fun j j0 j1 ej ihj hj => ?_) (fun j hj l => ?_) 0 (by decide) (by simp; omega) (by simp)
        · have xj := ix_int j0
          refine l0_498 _ _ _ _ _ _ _ _ _ _ _ _ _ ⟨fun _ => (q j ⟨j0, j1⟩ _).2.1 ⟨fun z => ?_, fun z => ihj ?_⟩, fun z => absurd (by rw [i32_lt]; exact j1) z⟩
          · have e : ix j = m := by
              refine Classical.byContradiction fun ne => f.2.2 (ix j) (by omega) ?_
              rw [z]; exact hc
            apply l0_529
            refine l0_536 _ _ _ _ _ _ _ _ _ _ _ _ _ ⟨fun z => absurd z (by rw [own_lt0]; omega), fun _ => two j (by rw [em]; omega)⟩
          · have ne : ix j ≠ m := fun e => z ((i32_eq).mpr (by rw [e, f.2.1]; exact hc.symm))
            omega
        · have := f.1
          omega
      · -- no child: climb
        refine loop_up (F := fun j => wplI PP QQ (some (N, sg)) 0 lm0 498 [some (.ref 0), some (.ref 1), none, none, some (.int x4), none, none, some (.int (gI u 0 19)), some (.int (gI u 0 21)), some (.int x9), some (.int la'), some (.int xp'), some (.int cu), some (.int (vi + 1)), none, none, some (.int (-1 : Int32)), some (.int j), none, none, none] [] (W1 u) R) (gI u 0 19).toInt (by omega) (fun j j0 j1 ej ihj => ?_) (fun j hj => ?_) 0 (by decide) (by simp; omega)
        · have xj := ix_int j0
          exact l0_498 _ _ _ _ _ _ _ _ _ _ _ _ _ ⟨fun _ => (q j ⟨j0, j1⟩ _).2.1 ⟨fun z => absurd (by rw [z]; exact hc) (nc (ix j) (by omega)), fun _ => ihj⟩, fun z => absurd (by rw [i32_lt]; exact j1) z⟩
        · refine l0_498 _ _ _ _ _ _ _ _ _ _ _ _ _ ⟨fun z => absurd z (by rw [i32_lt]; omega), fun _ => ?_⟩
          apply l0_529
          exact own_climb N sg u K X x4 x9 la' xp' (vi + 1) R (o t) ot cu 0 hc (by decide) (by show (0 : Int) + _ ≤ _; omega) fun y hy => two y (by rw [hy]; exact en)
    refine l0_388 _ _ _ _ _ _ _ _ _ _ _ ⟨fun z => absurd z (by rw [own_lt0]; omega), fun _ => ⟨fun _ => ⟨fun z => absurd z (by rw [i32_lt]; omega), fun _ => (q cu ⟨by omega, by omega⟩ _).1 ((q cu ⟨by omega, by omega⟩ _).2.2 ?_)⟩, fun z => absurd (by rw [i32_lt]; omega) z⟩⟩
    rw [ec]
    have keep : ¬ own_mt u (o t) → own_lf u o (t + 1) = own_lf u o t ∧ own_xf u o (t + 1) = own_xf u o t := fun nm => by
      have b : ¬ own_mb u (o t) = true := fun z => nm (own_mbt.mp z)
      refine ⟨?_, ?_⟩
      · show (if own_mb u (o t) then _ else _) = _
        rw [if_neg b]
      · show own_xf u o t + (if own_mb u (o t) then 1 else 0) = _
        rw [if_neg b]; omega
    refine ⟨fun z => absurd z (by rw [own_lt1]; rcases nd.2.1 with a | a <;> omega), fun _ => ⟨fun l16 => ⟨fun dn => ?_, fun dp => ?_⟩, fun l16 => ?_⟩⟩
    · have k := keep (fun m => by rw [own_lt0] at dn; have := m.2; omega)
      exact next la xp (by rw [k.1]; exact hla) (by rw [k.2]; exact hxp)
    · rw [own_lt16] at l16
      rw [own_lt0] at dp
      have mt : own_mt u (o t) := ⟨l16, by omega⟩
      have b := own_mbt.mpr mt
      have dl := (nd.2.2.1 l16).2
      have xd := ix_int (i := gI u 12 (o t)) (by omega)
      have lfd := o5 t (by omega) mt
      have sx : own_xf u o (t + 1) = own_xf u o t + 1 := by
        show own_xf u o t + (if own_mb u (o t) then 1 else 0) = _
        rw [if_pos b]
      have sl : own_lf u o (t + 1) = (gI u 12 (o t)).toInt := by
        show (if own_mb u (o t) then _ else _) = _
        rw [if_pos b]
      have xp1 : (xp + 1).toInt = own_xf u o (t + 1) := by
        rw [sx, i32_add (by rw [hxp]; show (-2147483648 : Int) ≤ _ + (1 : Int); omega) (by rw [hxp]; show _ + (1 : Int) < (2147483648 : Int); omega), hxp]; rfl
      have l485 := l0_485 N sg x4 (gI u 0 19) (gI u 0 21) x9 xp cu (vi + 1) (gI u 12 (o t)) R (next (gI u 12 (o t)) (xp + 1) sl.symm xp1)
      refine ⟨fun _ => own_l9 N sg hN _ (n := ix (gI u 12 (o t))) (by omega) (by omega) u _ ⟨u, rfl, fun _ => ⟨fun _ => ⟨fun _ => l485, fun n9 => ⟨fun _ => l485, fun z => absurd ((i32_eq).mpr ?_) z⟩⟩, fun z => absurd (by rw [i32_lt, hla]; exact lfd) z⟩, fun z => absurd ?_ z⟩, fun z => absurd (by rw [i32_lt]; omega) z⟩
      · rw [hxp]
        exact (o7 (st n9)).1 t (by omega) mt
      · rw [x7 (o t) ot mt]
        exact tk _ (by omega)
    · have k := keep (fun m => l16 (own_lt16.mpr m.1))
      exact next la xp (by rw [k.1]; exact hla) (by rw [k.2]; exact hxp)
  have oz := (o3 (by omega)).1
  exact key (ix (gI u 0 19)) 0 0 0 (-1) 0 (by omega) (by omega) (by rw [oz]; rfl) rfl rfl rfl

/-! the children -/
theorem own_l202 (N : Nat) (sg : Nat → Int32) (hN : N ≤ 260) (w : Nat) (u : St) (F : own_Fi N sg w u) (x4 x9 : Int32) (h4 : x4.toInt = w) (st : x9 ≠ 0 → gI u 0 21 = 0) (R : Int32 → Wd → Prop) (h : R 1 (W1 u)) : wplI PP QQ (some (N, sg)) 0 lm0 202 [some (.ref 0), some (.ref 1), some (.int (own_nR N sg)), none, some (.int x4), none, none, some (.int (gI u 0 19)), some (.int (gI u 0 21)), some (.int x9), some (.int (0 : Int32)), none, none, none, none, none, none, none, none, none, none] [] (W1 u) R := by
  have l388 := own_l388 N sg hN w u F x4 x9 h4 st R h
  obtain ⟨K, X, e17, rl, ⟨e18, w32⟩, tk, e22, e23⟩ := F
  obtain ⟨k19, k22, k23, k21, k0, kn, ks, kj, km, ke⟩ := id K
  obtain ⟨x1, x2, x3, x4', x5, x6, x7⟩ := id X
  have nR := own_nRr N sg
  have eN := ix_int (i := gI u 0 19) (by omega)
  have q := fun (i : Int32) (h : 0 ≤ i.toInt ∧ i.toInt < (gI u 0 19).toInt) Q => own_qn u i h k19.2 Q
  have z22 : ix (gI u 0 22) = 0 := by rw [e22]; rfl
  refine loop_up (F := fun i => wplI PP QQ (some (N, sg)) 0 lm0 202 [some (.ref 0), some (.ref 1), some (.int (own_nR N sg)), none, some (.int x4), none, none, some (.int (gI u 0 19)), some (.int (gI u 0 21)), some (.int x9), some (.int i), none, none, none, none, none, none, none, none, none, none] [] (W1 u) R) (gI u 0 19).toInt (by omega) (fun i i0 i1 ei ih => ?_) (fun i hi => l0_202 _ _ _ _ _ _ _ _ _ ⟨fun z => absurd z (by rw [i32_lt]; omega), fun _ => l388⟩) 0 (by decide) (by simp; omega)
  have xi := ix_int i0
  have nd := kn (ix i) (by omega)
  have cd := x1 (ix i) (by omega)
  have nx := l0_370 N sg (own_nR N sg) x4 (gI u 0 19) (gI u 0 21) x9 i R ih
  -- a node that was not expanded
  have bare : ¬ own_ex u (ix i) → wplI PP QQ (some (N, sg)) 0 lm0 284 [some (.ref 0), some (.ref 1), some (.int (own_nR N sg)), none, some (.int x4), none, none, some (.int (gI u 0 19)), some (.int (gI u 0 21)), some (.int x9), some (.int i), none, some (.int (gI u 12 (ix i))), some (.int (0 : Int32)), none, none, none, none, none, none, none] [] (W1 u) R := fun ne => by
    apply l0_284
    refine loop_up (F := fun j => wplI PP QQ (some (N, sg)) 0 lm0 290 [some (.ref 0), some (.ref 1), some (.int (own_nR N sg)), none, some (.int x4), none, none, some (.int (gI u 0 19)), some (.int (gI u 0 21)), some (.int x9), some (.int i), none, some (.int (gI u 12 (ix i))), some (.int (0 : Int32)), some (.int (0 : Int32)), some (.int j), none, none, none, none, none] [] (W1 u) R) (gI u 0 19).toInt (by omega) (fun j j0 j1 ej ihj => ?_) (fun j hj => l0_290 _ _ _ _ _ _ _ _ _ _ _ _ _ ⟨fun z => absurd z (by rw [i32_lt]; omega), fun _ => ⟨fun _ => nx, fun z => absurd rfl z⟩⟩) 0 (by decide) (by simp; omega)
    have xj := ix_int j0
    exact l0_290 _ _ _ _ _ _ _ _ _ _ _ _ _ ⟨fun _ => (q j ⟨j0, j1⟩ _).2.1 ⟨fun z => absurd (by rw [z]; omega) (cd.2 ne (ix j) (by omega)), fun _ => l0_346 _ _ _ _ _ _ _ _ _ _ _ _ _ ihj⟩, fun z => absurd (by rw [i32_lt]; exact j1) z⟩
  -- an expanded node
  have full : own_ex u (ix i) → wplI PP QQ (some (N, sg)) 0 lm0 284 [some (.ref 0), some (.ref 1), some (.int (own_nR N sg)), none, some (.int x4), none, none, some (.int (gI u 0 19)), some (.int (gI u 0 21)), some (.int x9), some (.int i), none, some (.int (gI u 12 (ix i))), some (.int (1 : Int32)), none, none, none, none, none, none, none] [] (W1 u) R := fun ex => by
    have dr := (nd.2.2.2 ex.1).resolve_left (fun z => by have := ex.2; rw [z] at this; exact absurd this (by decide))
    rw [e17] at dr
    have xd := ix_int dr.1
    obtain ⟨b, b1, b2, b3, b4⟩ := cd.1 ex
    have ru := rl (ix (gI u 12 (ix i))) (by omega)
    rw [ru.2.1] at b2 b3 b4
    have ll := own_lnr N sg (ix (gI u 12 (ix i)))
    have xl := ix_int ll.1
    apply l0_284
    refine loop_up (F := fun j => ∀ c : Int32, c.toInt = (if (j.toInt : Int) ≤ b then 0 else if j.toInt ≤ b + (ix (own_ln N sg (ix (gI u 12 (ix i)))) : Int) then j.toInt - b else (ix (own_ln N sg (ix (gI u 12 (ix i)))) : Int)) → wplI PP QQ (some (N, sg)) 0 lm0 290 [some (.ref 0), some (.ref 1), some (.int (own_nR N sg)), none, some (.int x4), none, none, some (.int (gI u 0 19)), some (.int (gI u 0 21)), some (.int x9), some (.int i), none, some (.int (gI u 12 (ix i))), some (.int (1 : Int32)), some (.int c), some (.int j), none, none, none, none, none] [] (W1 u) R) (gI u 0 19).toInt (by omega) (fun j j0 j1 ej ihj c hc => ?_) (fun j hj c hc => ?_) 0 (by decide) (by simp; omega) 0 (by rw [if_pos (by show (0 : Int) ≤ _; omega)]; rfl)
    · have xj := ix_int j0
      refine l0_290 _ _ _ _ _ _ _ _ _ _ _ _ _ ⟨fun _ => (q j ⟨j0, j1⟩ _).2.1 ⟨fun z => ⟨fun z1 => absurd z1 (by decide), fun _ => own_l7 N sg hN _ (n := ix (gI u 12 (ix i))) (by omega) (by omega) u _ ⟨u, rfl, fun cl => (q j ⟨j0, j1⟩ _).1 (own_l8 N sg hN _ _ (n := ix (gI u 12 (ix i))) (k := ix j - b) (by omega) (by omega) ?_ ?_ u _ ⟨u, rfl, fun _ => l0_346 _ _ _ _ _ _ _ _ _ _ _ _ _ (ihj _ ?_), fun zz => absurd ?_ zz⟩), fun cl => absurd ?_ cl⟩⟩, fun z => l0_346 _ _ _ _ _ _ _ _ _ _ _ _ _ (ihj c ?_)⟩, fun z => absurd (by rw [i32_lt]; exact j1) z⟩
      · have r := (b3 (ix j) (by omega)).mp (by rw [z]; omega)
        rw [hc]
        by_cases a : j.toInt ≤ b
        · rw [if_pos a]; omega
        · rw [if_neg a, if_pos (by omega)]; omega
      · have r := (b3 (ix j) (by omega)).mp (by rw [z]; omega)
        omega
      · have r := (b3 (ix j) (by omega)).mp (by rw [z]; omega)
        have cv : c.toInt = j.toInt - b := by
          rw [hc]
          by_cases a : j.toInt ≤ b
          · rw [if_pos a]; omega
          · rw [if_neg a, if_pos (by omega)]
        have c1 : (c + 1).toInt = c.toInt + 1 := by rw [i32_add] <;> simp <;> omega
        rw [c1, ej, if_neg (by omega), if_pos (by omega)]; omega
      · have r := (b3 (ix j) (by omega)).mp (by rw [z]; omega)
        have e := b4 (ix j - b) (by omega)
        have e' : b + (ix j - b) = ix j := by omega
        rw [e'] at e
        rw [e]
        exact ru.2.2 (ix j - b) (by omega)
      · have r := (b3 (ix j) (by omega)).mp (by rw [z]; omega)
        rw [i32_lt, hc]
        by_cases a : j.toInt ≤ b
        · rw [if_pos a]; omega
        · rw [if_neg a, if_pos (by omega)]; omega
      · have nr : ¬ (b ≤ ix j ∧ ix j < b + ix (own_ln N sg (ix (gI u 12 (ix i))))) := fun r => z ((i32_eq).mpr (by rw [(b3 (ix j) (by omega)).mpr r]; omega))
        rw [hc, ej]
        by_cases a : j.toInt ≤ b
        · rw [if_pos a]
          by_cases a2 : j.toInt + 1 ≤ b
          · rw [if_pos a2]
          · rw [if_neg a2]
            have l0 : ix (own_ln N sg (ix (gI u 12 (ix i)))) = 0 := by omega
            rw [l0]
            by_cases a3 : j.toInt + 1 ≤ (b : Int) + ((0 : Nat) : Int)
            · omega
            · rw [if_neg a3]; rfl
        · rw [if_neg a, if_neg (show ¬ j.toInt + 1 ≤ (b : Int) by omega)]
          by_cases a2 : j.toInt ≤ (b : Int) + (ix (own_ln N sg (ix (gI u 12 (ix i)))) : Int)
          · rw [if_pos a2, if_neg (by omega)]; omega
          · rw [if_neg a2, if_neg (by omega)]
    · refine l0_290 _ _ _ _ _ _ _ _ _ _ _ _ _ ⟨fun z => absurd z (by rw [i32_lt]; omega), fun _ => ⟨fun z => absurd z (by decide), fun _ => own_l7 N sg hN _ (n := ix (gI u 12 (ix i))) (by omega) (by omega) u _ ⟨u, rfl, fun _ => nx, fun z => absurd ((i32_eq).mpr ?_) z⟩⟩⟩
      rw [hc]
      by_cases a : j.toInt ≤ b
      · rw [if_pos a]; omega
      · rw [if_neg a]
        by_cases a2 : j.toInt ≤ (b : Int) + (ix (own_ln N sg (ix (gI u 12 (ix i)))) : Int)
        · rw [if_pos a2]; omega
        · rw [if_neg a2]; omega
  have l238 : wplI PP QQ (some (N, sg)) 0 lm0 238 [some (.ref 0), some (.ref 1), some (.int (own_nR N sg)), none, some (.int x4), none, none, some (.int (gI u 0 19)), some (.int (gI u 0 21)), some (.int x9), some (.int i), some (.int (gI u 10 (ix i))), some (.int (gI u 12 (ix i))), none, none, none, none, none, none, none, none] [] (W1 u) R := by
    refine l0_238 _ _ _ _ _ _ _ _ _ _ _ fun m hm => ?_
    by_cases c : gI u 10 (ix i) < 16
    · rw [if_pos c] at hm
      subst hm
      exact ⟨fun _ => bare (fun e => by rw [own_lt16] at c; have := e.1; omega), fun z => absurd rfl z⟩
    · rw [if_neg c] at hm
      by_cases d : gI u 12 (ix i) < 0
      · rw [if_pos d] at hm
        subst hm
        exact ⟨fun _ => bare (fun e => by rw [own_lt0] at d; have := e.2; omega), fun z => absurd rfl z⟩
      · rw [if_neg d] at hm
        subst hm
        rw [own_lt16] at c
        rw [own_lt0] at d
        have ex : own_ex u (ix i) := ⟨by omega, by omega⟩
        have dr := (nd.2.2.2 ex.1).resolve_left (fun z => by have := ex.2; rw [z] at this; exact absurd this (by decide))
        rw [e17] at dr
        have xd := ix_int dr.1
        have ru := rl (ix (gI u 12 (ix i))) (by omega)
        have lr := own_lhr N sg (ix (gI u 12 (ix i)))
        have nN := own_nNr N sg
        have e16 : (16 + own_lh N sg (ix (gI u 12 (ix i)))).toInt = 16 + (own_lh N sg (ix (gI u 12 (ix i)))).toInt := by rw [i32_add] <;> simp <;> omega
        refine ⟨fun z => absurd z (by decide), fun _ => ⟨fun _ => own_l6 N sg hN _ (n := ix (gI u 12 (ix i))) (by omega) (by omega) u _ ⟨u, rfl, fun _ => full ex, fun z => absurd ((i32_eq).mpr ?_) z⟩, fun z => absurd (by rw [i32_lt]; exact dr.2.1) z⟩⟩
        rw [e16, ← ru.1]
        have := dr.2.2
        omega
  refine l0_202 _ _ _ _ _ _ _ _ _ ⟨fun _ => (q i ⟨i0, i1⟩ _).1 ((q i ⟨i0, i1⟩ _).2.2 ⟨fun _ => l238, fun n9 => ⟨fun z => ?_, fun _ => l238⟩⟩), fun z => absurd (by rw [i32_lt]; exact i1) z⟩
  exact absurd z (x4' (st n9) (ix i) (by omega) (fun j hj => by rw [z22] at hj; omega))

theorem own_clamp (x lo hi : Int32) (s : St) (Q : Int32 → St → Prop) (h : Q (if x < lo then lo else if hi < x then hi else x) s) : calI PP 2 14 [.ref 0, .int x, .int lo, .int hi] s Q := by
  apply c2_in
  refine ⟨fun a => ?_, fun a => ⟨fun b => ?_, fun b => ?_⟩⟩
  · rw [if_pos a] at h; exact h
  · rw [if_neg a, if_pos b] at h; exact h
  · rw [if_neg a, if_neg b] at h; exact h
theorem own_x0 (c k : Nat) (hc : c ≠ 0) {v0 v1 v2 v3 v4 v5 v6 v7 v8 v9 v10 : Int32} : gI (sI (sI (sI (sI (sI (sI (sI (sI (sI (sI (sI s0 0 15 v0) 0 16 v1) 0 17 v2) 0 18 v3) 0 19 v4) 0 20 v5) 0 21 v6) 0 22 v7) 0 23 v8) 0 24 v9) 0 25 v10) c k = 0 := by
  iterate 11 rw [gI_sI, if_neg (fun w => hc w.1)]
  rfl
theorem own_start (N : Nat) (sg : Nat → Int32) : own_Gs N sg 0 (ix (own_ln N sg (0 - 1))) 0 (sI (sI (sI (sI (sI (sI (sI (sI (sI (sI (sI s0 0 15 (own_nN N sg)) 0 16 (own_nT N sg)) 0 17 0) 0 18 0) 0 19 0) 0 20 0) 0 21 0) 0 22 0) 0 23 0) 0 24 0) 0 25 0) := by
  have xc := fun c k (hc : c ≠ 0) => own_x0 c k hc (v0 := own_nN N sg) (v1 := own_nT N sg) (v2 := 0) (v3 := 0) (v4 := 0) (v5 := 0) (v6 := 0) (v7 := 0) (v8 := 0) (v9 := 0) (v10 := 0)
  have nN := own_nNr N sg
  have nT := own_nTr N sg
  generalize ht : (sI (sI (sI (sI (sI (sI (sI (sI (sI (sI (sI s0 0 15 (own_nN N sg)) 0 16 (own_nT N sg)) 0 17 0) 0 18 0) 0 19 0) 0 20 0) 0 21 0) 0 22 0) 0 23 0) 0 24 0) 0 25 0) = t at xc ⊢
  have t15 : gI t 0 15 = own_nN N sg := by rw [← ht]; simp [gI_sI]
  have t16 : gI t 0 16 = own_nT N sg := by rw [← ht]; simp [gI_sI]
  have t17 : gI t 0 17 = 0 := by rw [← ht]; simp [gI_sI]
  have t18 : gI t 0 18 = 0 := by rw [← ht]; simp [gI_sI]
  have t20 : gI t 0 20 = 0 := by rw [← ht]; simp [gI_sI]
  have t21 : gI t 0 21 = 0 := by rw [← ht]; simp [gI_sI]
  have t24 : gI t 0 24 = 0 := by rw [← ht]; simp [gI_sI]
  have t25 : gI t 0 25 = 0 := by rw [← ht]; simp [gI_sI]
  have z : (0 : Int32).toInt = 0 := by decide
  refine ⟨⟨⟨⟨by rw [t15]; exact nN, by rw [t16]; exact nT⟩, by rw [t17]; decide, by rw [t18]; decide, fun r => by rw [xc 1 r (by decide)]; decide, fun r => by rw [xc 2 r (by decide)]; decide, fun r j hr => absurd hr (by rw [t17, z]; omega), fun p hp => absurd hp (by rw [t18, z]; omega)⟩, ⟨by rw [t20]; decide, fun k hk => absurd hk (by rw [t20, z]; omega)⟩, fun a => ?_⟩, ⟨t15, t16, t24, t25, t21⟩, by rw [t17]; rfl, fun q hq => by omega, by rw [t18]; rfl, fun p hp => by omega⟩
  rw [xc 5 a (by decide), xc 4 a (by decide)]
  exact ⟨by decide, fun _ => ⟨rfl, rfl⟩⟩
theorem own_gt8 {x : Int32} : (8 : Int32) < x ↔ 8 < x.toInt := i32_lt
theorem own_gt15 {x : Int32} : (15 : Int32) < x ↔ 15 < x.toInt := i32_lt
theorem own_gt256 {x : Int32} : (256 : Int32) < x ↔ 256 < x.toInt := i32_lt
theorem law_ok (N : Nat) (sg : Nat → Int32) (hN' : (N : Int) ≤ (260 : Int32).toInt) : lalI PP QQ (some (N, sg)) 0 [.ref 0] W0 (fun v _ => v = 1) := by
  have e260 : (260 : Int32).toInt = 260 := by decide
  have hN : N ≤ 260 := by omega
  have nN := own_nNr N sg
  have nT := own_nTr N sg
  have nR := own_nRr N sg
  have xR := ix_int (i := own_nR N sg) (by omega)
  apply l0_in
  refine l3r0W0p_in _ _ _ (own_c2p N sg hN _ (n := 0) rfl _ ⟨rfl, rfl, ?_⟩)
  refine l4r0W0p_in _ _ _ (own_c2p N sg hN _ (n := 1) rfl _ ⟨rfl, rfl, ?_⟩)
  have cc1 : (if own_nN N sg < 1 then (1 : Int32) else if 8 < own_nN N sg then 8 else own_nN N sg) = own_nN N sg := by rw [if_neg (by rw [own_lt1]; omega), if_neg (by rw [own_gt8]; omega)]
  have cc2 : (if own_nT N sg < 1 then (1 : Int32) else if 15 < own_nT N sg then 15 else own_nT N sg) = own_nT N sg := by rw [if_neg (by rw [own_lt1]; omega), if_neg (by rw [own_gt15]; omega)]
  have ct : ∀ Q : St → Prop, Q (sI (sI (sI (sI (sI (sI (sI (sI (sI (sI (sI s0 0 15 (own_nN N sg)) 0 16 (own_nT N sg)) 0 17 0) 0 18 0) 0 19 0) 0 20 0) 0 21 0) 0 22 0) 0 23 0) 0 24 0) 0 25 0) → calV PP 0 0 [.ref 0, .int (own_nN N sg), .int (own_nT N sg)] s0 Q := by
    intro Q hq
    apply c0_in
    apply own_clamp
    rw [cc1]
    apply own_clamp
    rw [cc2]
    exact hq
  refine ct _ ?_
  have G0 := own_start N sg
  generalize (sI (sI (sI (sI (sI (sI (sI (sI (sI (sI (sI s0 0 15 (own_nN N sg)) 0 16 (own_nT N sg)) 0 17 0) 0 18 0) 0 19 0) 0 20 0) 0 21 0) 0 22 0) 0 23 0) 0 24 0) 0 25 0) = s at G0 ⊢
  refine l5r0W1_in _ _ _ _ (own_c2 N sg hN _ (n := 2) rfl _ _ ⟨s, rfl, s, rfl, ?_⟩)
  -- after the tokens
  have last : ∀ (x3 x4 x5 : Int32) (k : Nat) (s : St), k < 32 → x3.toInt = k → x4.toInt = k → x5.toInt = k → own_Gs N sg (ix (own_nR N sg)) (ix (own_ln N sg (ix (own_nR N sg) - 1))) k s → wplI PP QQ (some (N, sg)) 0 lm0 95 [some (.ref 0), some (.ref 1), some (.int (own_nR N sg)), some (.int x3), some (.int x4), some (.int x5), none, none, none, none, none, none, none, none, none, none, none, none, none, none, none] [] (W1 s) (fun v _ => v = 1) := by
    intro x3 x4 x5 k s hk h3 h4 h5 G
    have A := G.1
    have e24 := G.2.1.2.2.1
    have e25 := G.2.1.2.2.2.1
    have e21 := G.2.1.2.2.2.2
    refine l0_95 _ _ _ _ _ _ _ ⟨fun z => absurd z (by rw [i32_lt]; omega), fun _ => own_s6 s A _ (fun z => absurd e24 z) fun t _ At Tt _ t24 fr => ?_⟩
    have t25 : gI t 0 25 = 0 := by rw [fr 0 25 (by decide) (by decide) (by decide) (by decide) (by decide) (by decide)]; exact e25
    have t21 : gI t 0 21 = 0 := by rw [fr 0 21 (by decide) (by decide) (by decide) (by decide) (by decide) (by decide)]; exact e21
    have b1 : gI t 0 24 ≠ 0 := by rw [t24]; decide
    refine own_s22 t At (fun _ => Tt) (fun _ => t21) _ (fun z => absurd z (fun c => c.elim (fun a => b1 a) (fun a => a t25))) fun v u _ _ L stt => ?_
    have chk : ∀ v : Int32, (v = 0 → gI u 0 21 = 0) → gI u 0 23 = gI u 0 18 → gI u 0 22 = 0 → wplI PP QQ (some (N, sg)) 0 lm0 148 [some (.ref 0), some (.ref 1), some (.int (own_nR N sg)), none, some (.int x4), some (.int (gI t 0 20)), some (.int v), none, none, none, none, none, none, none, none, none, none, none, none, none, none] [] (W1 u) (fun v _ => v = 1) := fun v hv e23 e22 => by
      have F := own_Fi_of G (by omega) rfl hk fr L e22 e23
      have K := F.1
      have e18 := F.2.2.2.2.1.1
      obtain ⟨k19, k22, k23, k21, -⟩ := K
      rw [e23, e22, e18] at k21
      have c0 : (0 : Int32).toInt = 0 := by decide
      have e32 : (32 + gI u 0 19).toInt = 32 + (gI u 0 19).toInt := by rw [i32_add] <;> simp <;> omega
      refine l0_148 _ _ _ _ _ _ _ (c34_in _ _ (c32_in _ _ ⟨fun z => absurd z (by rw [own_gt256]; omega), fun _ => ⟨fun z => absurd z (by rw [i32_lt, e32]; omega), fun _ m hm => ?_⟩⟩))
      refine own_l202 N sg hN k u F x4 m h4 (fun nm => hv ?_) _ rfl
      refine Classical.byContradiction fun nv => nm ?_
      rw [hm]
      by_cases c : gI t 0 20 = 0
      · rw [if_pos c, if_neg nv]
      · rw [if_neg c]
    rcases stt with z | ⟨z, e23, e22⟩
    · subst z
      exact ⟨fun z => absurd z (by decide), fun _ => ⟨fun z => absurd z (by decide), fun _ => rfl⟩⟩
    · rcases z with z | z
      · exact ⟨fun _ => chk v (fun _ => z.2) e23 e22, fun n => absurd z.1 n⟩
      · exact ⟨fun n => absurd (by rw [z.1] at n; exact n) (by decide), fun _ => ⟨fun _ => chk v (fun n => by rw [z.1] at n; exact absurd n (by decide)) e23 e22, fun n => absurd z.1 n⟩⟩
  -- the tokens
  have toks : ∀ (want : Int32) (s : St), (0 ≤ want.toInt ∧ want.toInt < 32) → own_Gs N sg (ix (own_nR N sg)) (ix (own_ln N sg (ix (own_nR N sg) - 1))) 0 s → wplI PP QQ (some (N, sg)) 0 lm0 95 [some (.ref 0), some (.ref 1), some (.int (own_nR N sg)), some (.int want), some (.int (0 : Int32)), some (.int (0 : Int32)), none, none, none, none, none, none, none, none, none, none, none, none, none, none, none] [] (W1 s) (fun v _ => v = 1) := by
    intro want s hw G
    have xw := ix_int hw.1
    refine loop_up (F := fun i => ∀ (y : Int32) (s : St), y.toInt = i.toInt → own_Gs N sg (ix (own_nR N sg)) (ix (own_ln N sg (ix (own_nR N sg) - 1))) (ix i) s → wplI PP QQ (some (N, sg)) 0 lm0 95 [some (.ref 0), some (.ref 1), some (.int (own_nR N sg)), some (.int want), some (.int y), some (.int i), none, none, none, none, none, none, none, none, none, none, none, none, none, none, none] [] (W1 s) (fun v _ => v = 1)) want.toInt (by omega) (fun i i0 i1 e ih y s hy G => ?_) (fun i hi y s hy G => ?_) 0 (by decide) (by simpa using hw.1) 0 s rfl G
    · have xi := ix_int i0
      have xi1 := ix_int (i := i + 1) (by omega)
      have e1 : ix (i + 1) = ix i + 1 := by omega
      have y1 : (y + 1).toInt = y.toInt + 1 := by rw [i32_add] <;> simp <;> omega
      refine l0_95 _ _ _ _ _ _ _ ⟨fun _ => own_l9 N sg hN i (n := ix i) (by omega) (by omega) s _ ⟨s, rfl, own_g21 G (by omega) _ fun t Gt m hm => ih m t ?_ (by rw [e1]; exact Gt)⟩, fun z => absurd (by rw [i32_lt]; exact i1) z⟩
      rw [hm, if_neg (by decide)]; omega
    · have xi := ix_int (i := i) (by omega)
      exact last want y i (ix i) s (by omega) (by omega) (by omega) (by omega) G
  -- the rules
  refine loop_up (F := fun r => ∀ s, own_Gs N sg (ix r) (ix (own_ln N sg (ix r - 1))) 0 s → wplI PP QQ (some (N, sg)) 0 lm0 23 [some (.ref 0), some (.ref 1), some (.int (own_nR N sg)), some (.int r), none, none, none, none, none, none, none, none, none, none, none, none, none, none, none, none, none] [] (W1 s) (fun v _ => v = 1)) (own_nR N sg).toInt (by omega) (fun r r0 r1 er ih s G => ?_) (fun r hr s G => ?_) 0 (by decide) (by show (0 : Int) ≤ _; omega) s G0
  · have xr := ix_int r0
    have xr1 := ix_int (i := r + 1) (by omega)
    have e1 : ix (r + 1) = ix r + 1 := by omega
    have ll := own_lnr N sg (ix r)
    have xl := ix_int ll.1
    refine l0_23 _ _ _ _ _ ⟨fun _ => own_l6 N sg hN r (n := ix r) (by omega) (by omega) s _ ⟨s, rfl, own_g3 G (by omega) _ fun v t Gt => own_l7 N sg hN r (n := ix r) (by omega) (by omega) t _ ⟨t, rfl, ?_⟩⟩, fun z => absurd (by rw [i32_lt]; exact r1) z⟩
    refine loop_up (F := fun j => ∀ s, own_Gs N sg (ix r + 1) (ix j) 0 s → wplI PP QQ (some (N, sg)) 0 lm0 48 [some (.ref 0), some (.ref 1), some (.int (own_nR N sg)), some (.int r), some (.int (own_ln N sg (ix r))), some (.int j), none, none, none, none, none, none, none, none, none, none, none, none, none, none, none] [] (W1 s) (fun v _ => v = 1)) (own_ln N sg (ix r)).toInt (by omega) (fun j j0 j1 ej ihj s G => ?_) (fun j hj s G => ?_) 0 (by decide) (by show (0 : Int) ≤ _; omega) t Gt
    · have xj := ix_int j0
      have xj1 := ix_int (i := j + 1) (by omega)
      have e2 : ix (j + 1) = ix j + 1 := by omega
      exact l0_48 _ _ _ _ _ _ _ ⟨fun _ => own_l8 N sg hN r j (n := ix r) (k := ix j) (by omega) (by omega) (by omega) (by omega) s _ ⟨s, rfl, own_g4 G (by omega) (by omega) _ fun v t Gt => ihj t (by rw [e2]; exact Gt)⟩, fun z => absurd (by rw [i32_lt]; exact j1) z⟩
    · have xj := ix_int (i := j) (by omega)
      refine l0_48 _ _ _ _ _ _ _ ⟨fun z => absurd z (by rw [i32_lt]; omega), fun _ => ih s ?_⟩
      rw [e1]
      have e3 : ix r + 1 - 1 = ix r := by omega
      have e4 : ix j = ix (own_ln N sg (ix r)) := by omega
      rw [e3, ← e4]; exact G
  · have er : r = own_nR N sg := (i32_eq).mpr hr
    subst er
    refine l0_23 _ _ _ _ _ ⟨fun z => absurd z (by rw [i32_lt]; omega), fun _ => own_c2 N sg hN _ (n := 67) rfl s _ ⟨s, rfl, toks _ s (own_m31 _) G⟩⟩
theorem comes_1 {Post : Tables → Env → Array Value → State → Outcome → State → Prop} (hpost : ∀ tb e args s v u, (limb_1_1.after args s (.returned v) u = true ∧ limb_1_2.after args s (.returned v) u = true ∧ True) → FrameEnd s (.returned v) u (Jvm.fieldLocs frame_1_writes args s ++ Jvm.arrayLocs frame_1_arrays args s ++ Jvm.staticLocs frame_1_statics s) 40 3456 → Post tb e args s (.returned v) u) :
    ArmFor flags0 classFile x code maxLocals ret World_1 tables_1 room_1 Calls_1 rest_1 Pre_1 Post := by
  intro l hfl _ _ p e ha hc hk s m args below hf hA hF happ hP
  obtain ⟨hcalls, hrest, hpre⟩ := hP
  obtain ⟨-, -, -, hnamed, -, -, -, hat⟩ := (Spec.applies_iff hf).mp happ
  obtain ⟨hg, hn⟩ := and_e (Cond.before_iff.mp (show (Jvm.Cond.and given_1 narrow_1).before args s = true from hpre))
  obtain ⟨h1, g0⟩ := and_e hg
  obtain ⟨w0, rfl⟩ : ∃ w0 : Value, args = #[w0] := by
    have hs : args.size = 1 := by simpa [Cond.value, given_1] using h1
    obtain ⟨L⟩ := args
    match L, hs with
    | [w0], _ => exact ⟨w0, rfl⟩
  have hw := fun d (hd : d ∈ tables_1) => atoms_spec (ws := Jvm.Cond.code x code maxLocals ret :: tables_1) hat d (List.mem_cons_of_mem _ hd)
  have hfit : Fit s := fun {y c} hc i hi => by
    obtain ⟨ha, rfl⟩ := Array.getElem?_eq_some_iff.mp hc
    have q := List.all_eq_true.mp ((Array.all_eq_true_iff_forall_mem.mp hF) _ (Array.getElem_mem ha)) i (List.mem_range.mpr hi)
    simpa [Array.getElem?_eq_getElem hi] using q
  obtain ⟨hn1, hn2⟩ := and_e hn
  obtain ⟨a, ea⟩ := arr_v hn1
  obtain rfl : w0 = .ref a := Option.some.inj ea
  obtain ⟨cl, A⟩ := Arr.start ea hn1
  obtain ⟨⟨-, hN⟩, hS⟩ := script_of hfit A ea hn2
  obtain ⟨f, w0, hr⟩ := law_run (law_ok cl.slots.size (fun i => match cl.slots[i]? with | some (.int x) => x | _ => 0) hN) (me := lm0) rfl
  have M : MetFree l x (head1 (Jvm.Cond.code x code maxLocals ret :: tables_1) room_1) (fun b U => b = #[.ref a] ∧ s.Warmed39 U.vm ∧ U.heap = s.heap) (fun _ _ _ _ _ => True) (fun _ U o U' => ∃ u L, o = .returned u ∧ (u = some (.int 1) ∧ Fr s.heap.size L) ∧ FrameEnd U o U' L 40 3456) :=
    law_met (lkC s _ hw) (lkL s _ hw) (sc := some (cl.slots.size, fun i => match cl.slots[i]? with | some (.int x) => x | _ => 0)) (a := a) (me := lm0) rfl l (bytes := code) (chk_ok dk_l0) (as := [.ref 0]) rfl (Nat.le_of_ble_eq_true rfl) hr hS
  obtain ⟨n, o, h1, h2, h3, _, L, rfl, ⟨rfl, N⟩, hq⟩ := M p e ha hc hk s m _ below hf ((Spec.applies_iff_loose hf).mp happ).1 ⟨rfl, State.Warmed39.refl s, rfl⟩ trivial
  refine ⟨n, _, h1, h2, h3, hpost _ _ _ _ _ _ ⟨Cond.after_iff.mpr rfl, Cond.after_iff.mpr (eq_i res_at (Term.int_eval (1)) rfl), trivial⟩ ⟨hq.1, hq.2.1, (hq.2.2.sift fun y hy => Or.inr (N y hy)).mono (by decide) (by decide)⟩⟩
theorem main_1_1 : Claimed_1_1 := comes_1 fun _ _ _ _ _ _ h hF => ⟨h.1, hF⟩
theorem main_1_2 : Claimed_1_2 := comes_1 fun _ _ _ _ _ _ h hF => ⟨h.2.1, hF⟩
end Jvm.Pilot.@@N@@
namespace Jvm.Pilot.@@N@@
open Jvm Jvm.ClassFile Sem Op Lib Jvm.Free Jvm.Stand Jvm.Pilot.@@N@@.Jvm.D
/-! MADE BY PROGRAM (witnessworld.py) out of the Statement's table words and the real class files: 11 classes; the members and pool entries that the words name. The judged class is class 1, her method 9. -/
namespace start1
open Jvm.ClassFile
def u (s : String) : CpInfo := .utf8 (stringToUtf16 s)
/-- a pool by its gaps: so many unusable entries, then the entry; so many at the end -/
def gap : Nat → List CpInfo → List CpInfo
  | 0, r => r
  | n + 1, r => .unusable :: gap n r
def poolList (es : List (Nat × CpInfo)) (last : Nat) : List CpInfo := es.foldr (fun e r => gap e.1 (e.2 :: r)) (gap last [])
def pool (es : List (Nat × CpInfo)) (last : Nat) : Array CpInfo := ⟨poolList es last⟩
def fileOf (pool : Array CpInfo) (this : Nat) (attrs : Array Attribute := #[]) (ms : Array MethodInfo := #[]) (fl : Nat := 33) (sup : Nat := 0) (ifs : Array Nat := #[]) (fds : Array FieldInfo := #[]) : ClassFile where
  minorVersion := 0
  majorVersion := 65
  constantPool := pool
  accessFlags := fl
  thisClass := this
  superClass := sup
  interfaces := ifs
  fields := fds
  methods := ms
  attributes := attrs
def plain (name : String) (sup : Option ClassId) : Class where
  name := name
  kind := .ordinary
  loader := none
  accessFlags := 33
  super := sup
  interfaces := #[]
  cf := none
  fields := #[]
  methods := #[]
  instanceTypes := #[]
  staticTypes := #[]
  resolved := #[]
  callSites := []
  init := .initialized
  statics := none
  mirror := none

def pool0 : Array CpInfo := pool [(5, u "<init>"), (0, u "()V"), (1, .class_ 10), (1, u "java/lang/Object")] 113

def k0c0 : Code := { maxStack := 0, maxLocals := 1, code := object_method_1_code, exceptionTable := #[], attributes := #[] }
def k0m0 : Method := { name := "<init>", desc := "()V", sig := { parameters := [], returnType := none }, accessFlags := 1, code := some k0c0 }
/-- java/lang/Object -/
def k0 : Class := { plain "java/lang/Object" none with
  accessFlags := 33
  interfaces := #[]
  cf := some (fileOf pool0 8 #[] #[{ accessFlags := 1, nameIndex := 5, descriptorIndex := 6, attributes := #[] }] 33 0 #[] #[])
  fields := #[]
  methods := #[k0m0]
  instanceTypes := #[]
  staticTypes := #[]
  resolved := Array.replicate 124 none
  statics := none }

def pool1 : Array CpInfo := pool [(2, .class_ 4), (1, u "java/lang/Object"), (0, u "<init>"), (0, u "()V"), (0, .methodref 8 9), (0, .class_ 10), (0, .nameAndType 11 12), (0, u "Ll1RecoverGenOwnLaw"), (0, u "cell"), (0, u "([II)I"), (0, .methodref 8 14), (0, .nameAndType 15 16), (0, u "nN"), (0, u "([I)I"), (0, .integer 65535), (0, .methodref 8 19), (0, .nameAndType 20 16), (0, u "nT"), (0, .class_ 22), (0, u "Ll1RecoverGen"), (0, .methodref 21 24), (0, .nameAndType 5 25), (0, u "(II)V"), (0, .methodref 8 27), (0, .nameAndType 28 16), (0, u "nR"), (0, .methodref 8 30), (0, .nameAndType 31 12), (0, u "lhs"), (0, .methodref 21 33), (0, .nameAndType 34 35), (0, u "beginRule"), (0, u "(I)I"), (0, .methodref 8 37), (0, .nameAndType 38 12), (0, u "len"), (0, .methodref 8 40), (0, .nameAndType 41 42), (0, u "sym"), (0, u "([III)I"), (0, .methodref 21 44), (0, .nameAndType 45 46), (0, u "addSymbol"), (0, u "(I)Z"), (0, .methodref 8 48), (0, .nameAndType 49 12), (0, u "tok"), (0, .methodref 21 51), (0, .nameAndType 52 46), (0, u "token"), (0, .methodref 21 54), (0, .nameAndType 55 56), (0, u "build"), (0, u "()I"), (0, .methodref 21 58), (0, .nameAndType 59 56), (0, u "parse"), (0, .methodref 21 61), (0, .nameAndType 62 56), (0, u "nodeCount"), (0, .methodref 21 64), (0, .nameAndType 65 56), (0, u "errorCount"), (0, .methodref 21 67), (0, .nameAndType 68 35), (0, u "nodeSymbol"), (0, .methodref 21 70), (0, .nameAndType 71 35), (0, u "nodeDetail"), (0, .methodref 21 73), (0, .nameAndType 74 35), (0, u "nodeParent"), (0, .methodref 21 76), (0, .nameAndType 77 35), (0, u "error"), (3, u "law"), (0, u "([I)Z")] 4

def k1m0 : Method := { name := "<init>", desc := "()V", sig := { parameters := [], returnType := none }, accessFlags := 1, code := none }
def k1c1 : Code := { maxStack := 2, maxLocals := 2, code := method_2_code, exceptionTable := #[], attributes := #[] }
def k1m1 : Method := { name := "cell", desc := "([II)I", sig := { parameters := [(.array .int), .int], returnType := some .int }, accessFlags := 10, code := some k1c1 }
def k1c2 : Code := { maxStack := 3, maxLocals := 1, code := method_3_code, exceptionTable := #[], attributes := #[] }
def k1m2 : Method := { name := "nN", desc := "([I)I", sig := { parameters := [(.array .int)], returnType := some .int }, accessFlags := 10, code := some k1c2 }
def k1c3 : Code := { maxStack := 3, maxLocals := 1, code := method_4_code, exceptionTable := #[], attributes := #[] }
def k1m3 : Method := { name := "nT", desc := "([I)I", sig := { parameters := [(.array .int)], returnType := some .int }, accessFlags := 10, code := some k1c3 }
def k1c4 : Code := { maxStack := 3, maxLocals := 1, code := method_5_code, exceptionTable := #[], attributes := #[] }
def k1m4 : Method := { name := "nR", desc := "([I)I", sig := { parameters := [(.array .int)], returnType := some .int }, accessFlags := 10, code := some k1c4 }
def k1c5 : Code := { maxStack := 4, maxLocals := 2, code := method_6_code, exceptionTable := #[], attributes := #[] }
def k1m5 : Method := { name := "lhs", desc := "([II)I", sig := { parameters := [(.array .int), .int], returnType := some .int }, accessFlags := 10, code := some k1c5 }
def k1c6 : Code := { maxStack := 4, maxLocals := 2, code := method_7_code, exceptionTable := #[], attributes := #[] }
def k1m6 : Method := { name := "len", desc := "([II)I", sig := { parameters := [(.array .int), .int], returnType := some .int }, accessFlags := 10, code := some k1c6 }
def k1c7 : Code := { maxStack := 4, maxLocals := 4, code := method_8_code, exceptionTable := #[], attributes := #[] }
def k1m7 : Method := { name := "sym", desc := "([III)I", sig := { parameters := [(.array .int), .int, .int], returnType := some .int }, accessFlags := 10, code := some k1c7 }
def k1c8 : Code := { maxStack := 4, maxLocals := 2, code := method_9_code, exceptionTable := #[], attributes := #[] }
def k1m8 : Method := { name := "tok", desc := "([II)I", sig := { parameters := [(.array .int), .int], returnType := some .int }, accessFlags := 10, code := some k1c8 }
def k1c9 : Code := { maxStack := 4, maxLocals := 21, code := code, exceptionTable := #[], attributes := #[] }
def k1m9 : Method := { name := "law", desc := "([I)Z", sig := { parameters := [(.array .int)], returnType := some .boolean }, accessFlags := 9, code := some k1c9 }
/-- Ll1RecoverGenOwnLaw -/
def k1 : Class := { plain "Ll1RecoverGenOwnLaw" (some 0) with
  accessFlags := 49
  interfaces := #[]
  cf := some (fileOf pool1 8 #[] #[{ accessFlags := 1, nameIndex := 5, descriptorIndex := 6, attributes := #[] }, { accessFlags := 10, nameIndex := 11, descriptorIndex := 12, attributes := #[] }, { accessFlags := 10, nameIndex := 15, descriptorIndex := 16, attributes := #[] }, { accessFlags := 10, nameIndex := 20, descriptorIndex := 16, attributes := #[] }, { accessFlags := 10, nameIndex := 28, descriptorIndex := 16, attributes := #[] }, { accessFlags := 10, nameIndex := 31, descriptorIndex := 12, attributes := #[] }, { accessFlags := 10, nameIndex := 38, descriptorIndex := 12, attributes := #[] }, { accessFlags := 10, nameIndex := 41, descriptorIndex := 42, attributes := #[] }, { accessFlags := 10, nameIndex := 49, descriptorIndex := 12, attributes := #[] }, { accessFlags := 9, nameIndex := 81, descriptorIndex := 82, attributes := #[] }] 49 2 #[] #[])
  fields := #[]
  methods := #[k1m0, k1m1, k1m2, k1m3, k1m4, k1m5, k1m6, k1m7, k1m8, k1m9]
  instanceTypes := #[]
  staticTypes := #[]
  resolved := Array.replicate 87 none
  statics := none }

def pool2 : Array CpInfo := pool [(1, .methodref 2 3), (0, .class_ 4), (0, .nameAndType 5 6), (0, u "java/lang/Object"), (0, u "<init>"), (0, u "()V"), (0, .fieldref 8 9), (0, .class_ 10), (0, .nameAndType 11 12), (0, u "Ll1RecoverGen"), (0, u "ruleLhs"), (0, u "[I"), (0, .fieldref 8 14), (0, .nameAndType 15 12), (0, u "ruleLen"), (0, .fieldref 8 17), (0, .nameAndType 18 12), (0, u "ruleRhs"), (0, .fieldref 8 20), (0, .nameAndType 21 22), (0, u "nullableNt"), (0, u "[Z"), (0, .fieldref 8 24), (0, .nameAndType 25 12), (0, u "firstNt"), (0, .fieldref 8 27), (0, .nameAndType 28 12), (0, u "followNt"), (0, .fieldref 8 30), (0, .nameAndType 31 12), (0, u "table"), (0, .fieldref 8 33), (0, .nameAndType 34 12), (0, u "conflicts"), (0, .fieldref 8 36), (0, .nameAndType 37 12), (0, u "tokens"), (0, .fieldref 8 39), (0, .nameAndType 40 12), (0, u "nodeSym"), (0, .fieldref 8 42), (0, .nameAndType 43 12), (0, u "nodePar"), (0, .fieldref 8 45), (0, .nameAndType 46 12), (0, u "nodeDet"), (0, .fieldref 8 48), (0, .nameAndType 49 12), (0, u "stack"), (0, .fieldref 8 51), (0, .nameAndType 52 12), (0, u "errors"), (0, .methodref 8 54), (0, .nameAndType 55 56), (0, u "clamp"), (0, u "(III)I"), (0, .fieldref 8 58), (0, .nameAndType 59 60), (0, u "nNt"), (0, u "I"), (0, .fieldref 8 62), (0, .nameAndType 63 60), (0, u "nT"), (0, .fieldref 8 65), (0, .nameAndType 66 60), (0, u "ruleCount"), (0, .fieldref 8 68), (0, .nameAndType 69 60), (0, u "tokenCount"), (0, .fieldref 8 71), (0, .nameAndType 72 60), (0, u "nodeCount"), (0, .fieldref 8 74), (0, .nameAndType 75 60), (0, u "conflictCount"), (0, .fieldref 8 77), (0, .nameAndType 78 60), (0, u "errorCount"), (0, .fieldref 8 80), (0, .nameAndType 81 60), (0, u "sp"), (0, .fieldref 8 83), (0, .nameAndType 84 60), (0, u "pos"), (0, .fieldref 8 86), (0, .nameAndType 87 88), (0, u "built"), (0, u "Z"), (0, .fieldref 8 90), (0, .nameAndType 91 88), (0, u "parsed"), (0, .methodref 8 93), (0, .nameAndType 94 95), (0, u "validSymbol"), (0, u "(I)Z"), (0, .methodref 8 97), (0, .nameAndType 98 99), (0, u "nullablePass"), (0, u "()Z"), (0, .methodref 8 101), (0, .nameAndType 102 99), (0, u "firstPass"), (0, .methodref 8 104), (0, .nameAndType 105 99), (0, u "followPass"), (0, .methodref 8 107), (0, .nameAndType 108 6), (0, u "fillTable"), (0, .methodref 8 110), (0, .nameAndType 111 112), (0, u "seqNullable"), (0, u "(II)Z"), (0, .methodref 8 114), (0, .nameAndType 115 116), (0, u "firstOfSeq"), (0, u "(II)I"), (0, .methodref 8 118), (0, .nameAndType 119 95), (0, u "followRule"), (0, .methodref 8 121), (0, .nameAndType 122 123), (0, u "fillRule"), (0, u "(I)V"), (0, .methodref 8 125), (0, .nameAndType 126 127), (0, u "predict"), (0, u "(I)I"), (0, .methodref 8 129), (0, .nameAndType 130 6), (0, u "skipRest"), (0, .methodref 8 132), (0, .nameAndType 133 134), (0, u "matchTerminal"), (0, u "(II)V"), (0, .methodref 8 136), (0, .nameAndType 137 112), (0, u "expandOrRecover"), (0, .methodref 8 139), (0, .nameAndType 140 141), (0, u "record"), (0, u "(III)V"), (0, .methodref 8 143), (0, .nameAndType 144 145), (0, u "lookahead"), (0, u "()I"), (0, .methodref 8 147), (0, .nameAndType 148 112), (0, u "expand"), (0, .methodref 8 150), (0, .nameAndType 151 123), (0, u "recover"), (0, .methodref 8 153), (0, .nameAndType 154 123), (0, u "push"), (0, .methodref 8 156), (0, .nameAndType 157 127), (0, u "syncSet"), (0, u "NT_BASE"), (2, u "END"), (1, u "MAX_RULES"), (0, u "MAX_RHS"), (1, u "MAX_TOKENS"), (1, u "MAX_NODES"), (1, u "MAX_ERRORS"), (1, u "REFUSED"), (1, u "STATUS_OK"), (0, u "STATUS_RECOVERED"), (1, u "STATUS_OVERFLOW"), (1, u "ERR_MISSING"), (0, u "ERR_SKIP"), (0, u "ERR_ABANDON"), (4, u "beginRule"), (0, u "addSymbol"), (0, u "build"), (5, u "token"), (0, u "parse"), (0, u "error"), (0, u "nodeSymbol"), (0, u "nodeParent"), (0, u "nodeDetail")] 2

def k2c0 : Code := { maxStack := 5, maxLocals := 3, code := prog_1_method_1_code, exceptionTable := #[], attributes := #[] }
def k2m0 : Method := { name := "<init>", desc := "(II)V", sig := { parameters := [.int, .int], returnType := none }, accessFlags := 1, code := some k2c0 }
def k2c1 : Code := { maxStack := 2, maxLocals := 4, code := prog_1_method_2_code, exceptionTable := #[], attributes := #[] }
def k2m1 : Method := { name := "clamp", desc := "(III)I", sig := { parameters := [.int, .int, .int], returnType := some .int }, accessFlags := 2, code := some k2c1 }
def k2c2 : Code := { maxStack := 3, maxLocals := 3, code := prog_1_method_3_code, exceptionTable := #[], attributes := #[] }
def k2m2 : Method := { name := "beginRule", desc := "(I)I", sig := { parameters := [.int], returnType := some .int }, accessFlags := 1, code := some k2c2 }
def k2c3 : Code := { maxStack := 4, maxLocals := 3, code := prog_1_method_4_code, exceptionTable := #[], attributes := #[] }
def k2m3 : Method := { name := "addSymbol", desc := "(I)Z", sig := { parameters := [.int], returnType := some .boolean }, accessFlags := 1, code := some k2c3 }
def k2c4 : Code := { maxStack := 3, maxLocals := 2, code := prog_1_method_5_code, exceptionTable := #[], attributes := #[] }
def k2m4 : Method := { name := "validSymbol", desc := "(I)Z", sig := { parameters := [.int], returnType := some .boolean }, accessFlags := 2, code := some k2c4 }
def k2c5 : Code := { maxStack := 3, maxLocals := 2, code := prog_1_method_6_code, exceptionTable := #[], attributes := #[] }
def k2m5 : Method := { name := "build", desc := "()I", sig := { parameters := [], returnType := some .int }, accessFlags := 1, code := some k2c5 }
def k2c6 : Code := { maxStack := 3, maxLocals := 6, code := prog_1_method_7_code, exceptionTable := #[], attributes := #[] }
def k2m6 : Method := { name := "seqNullable", desc := "(II)Z", sig := { parameters := [.int, .int], returnType := some .boolean }, accessFlags := 2, code := some k2c6 }
def k2c7 : Code := { maxStack := 4, maxLocals := 7, code := prog_1_method_8_code, exceptionTable := #[], attributes := #[] }
def k2m7 : Method := { name := "firstOfSeq", desc := "(II)I", sig := { parameters := [.int, .int], returnType := some .int }, accessFlags := 2, code := some k2c7 }
def k2c8 : Code := { maxStack := 3, maxLocals := 4, code := prog_1_method_9_code, exceptionTable := #[], attributes := #[] }
def k2m8 : Method := { name := "nullablePass", desc := "()Z", sig := { parameters := [], returnType := some .boolean }, accessFlags := 2, code := some k2c8 }
def k2c9 : Code := { maxStack := 4, maxLocals := 5, code := prog_1_method_10_code, exceptionTable := #[], attributes := #[] }
def k2m9 : Method := { name := "firstPass", desc := "()Z", sig := { parameters := [], returnType := some .boolean }, accessFlags := 2, code := some k2c9 }
def k2c10 : Code := { maxStack := 2, maxLocals := 3, code := prog_1_method_11_code, exceptionTable := #[], attributes := #[] }
def k2m10 : Method := { name := "followPass", desc := "()Z", sig := { parameters := [], returnType := some .boolean }, accessFlags := 2, code := some k2c10 }
def k2c11 : Code := { maxStack := 4, maxLocals := 9, code := prog_1_method_12_code, exceptionTable := #[], attributes := #[] }
def k2m11 : Method := { name := "followRule", desc := "(I)Z", sig := { parameters := [.int], returnType := some .boolean }, accessFlags := 2, code := some k2c11 }
def k2c12 : Code := { maxStack := 4, maxLocals := 3, code := prog_1_method_13_code, exceptionTable := #[], attributes := #[] }
def k2m12 : Method := { name := "predict", desc := "(I)I", sig := { parameters := [.int], returnType := some .int }, accessFlags := 2, code := some k2c12 }
def k2c13 : Code := { maxStack := 3, maxLocals := 2, code := prog_1_method_14_code, exceptionTable := #[], attributes := #[] }
def k2m13 : Method := { name := "fillTable", desc := "()V", sig := { parameters := [], returnType := none }, accessFlags := 2, code := some k2c13 }
def k2c14 : Code := { maxStack := 5, maxLocals := 7, code := prog_1_method_15_code, exceptionTable := #[], attributes := #[] }
def k2m14 : Method := { name := "fillRule", desc := "(I)V", sig := { parameters := [.int], returnType := none }, accessFlags := 2, code := some k2c14 }
def k2c15 : Code := { maxStack := 3, maxLocals := 2, code := prog_1_method_21_code, exceptionTable := #[], attributes := #[] }
def k2m15 : Method := { name := "token", desc := "(I)Z", sig := { parameters := [.int], returnType := some .boolean }, accessFlags := 1, code := some k2c15 }
def k2c16 : Code := { maxStack := 4, maxLocals := 4, code := prog_1_method_22_code, exceptionTable := #[], attributes := #[] }
def k2m16 : Method := { name := "parse", desc := "()I", sig := { parameters := [], returnType := some .int }, accessFlags := 1, code := some k2c16 }
def k2c17 : Code := { maxStack := 2, maxLocals := 1, code := prog_1_method_23_code, exceptionTable := #[], attributes := #[] }
def k2m17 : Method := { name := "lookahead", desc := "()I", sig := { parameters := [], returnType := some .int }, accessFlags := 2, code := some k2c17 }
def k2c18 : Code := { maxStack := 5, maxLocals := 4, code := prog_1_method_24_code, exceptionTable := #[], attributes := #[] }
def k2m18 : Method := { name := "record", desc := "(III)V", sig := { parameters := [.int, .int, .int], returnType := none }, accessFlags := 2, code := some k2c18 }
def k2c19 : Code := { maxStack := 5, maxLocals := 2, code := prog_1_method_25_code, exceptionTable := #[], attributes := #[] }
def k2m19 : Method := { name := "skipRest", desc := "()V", sig := { parameters := [], returnType := none }, accessFlags := 2, code := some k2c19 }
def k2c20 : Code := { maxStack := 4, maxLocals := 4, code := prog_1_method_26_code, exceptionTable := #[], attributes := #[] }
def k2m20 : Method := { name := "matchTerminal", desc := "(II)V", sig := { parameters := [.int, .int], returnType := none }, accessFlags := 2, code := some k2c20 }
def k2c21 : Code := { maxStack := 3, maxLocals := 5, code := prog_1_method_27_code, exceptionTable := #[], attributes := #[] }
def k2m21 : Method := { name := "expandOrRecover", desc := "(II)Z", sig := { parameters := [.int, .int], returnType := some .boolean }, accessFlags := 2, code := some k2c21 }
def k2c22 : Code := { maxStack := 5, maxLocals := 7, code := prog_1_method_28_code, exceptionTable := #[], attributes := #[] }
def k2m22 : Method := { name := "expand", desc := "(II)Z", sig := { parameters := [.int, .int], returnType := some .boolean }, accessFlags := 2, code := some k2c22 }
def k2c23 : Code := { maxStack := 3, maxLocals := 2, code := prog_1_method_29_code, exceptionTable := #[], attributes := #[] }
def k2m23 : Method := { name := "push", desc := "(I)V", sig := { parameters := [.int], returnType := none }, accessFlags := 2, code := some k2c23 }
def k2c24 : Code := { maxStack := 4, maxLocals := 5, code := prog_1_method_30_code, exceptionTable := #[], attributes := #[] }
def k2m24 : Method := { name := "syncSet", desc := "(I)I", sig := { parameters := [.int], returnType := some .int }, accessFlags := 2, code := some k2c24 }
def k2c25 : Code := { maxStack := 5, maxLocals := 5, code := prog_1_method_31_code, exceptionTable := #[], attributes := #[] }
def k2m25 : Method := { name := "recover", desc := "(I)V", sig := { parameters := [.int], returnType := none }, accessFlags := 2, code := some k2c25 }
def k2c26 : Code := { maxStack := 1, maxLocals := 1, code := prog_1_method_32_code, exceptionTable := #[], attributes := #[] }
def k2m26 : Method := { name := "errorCount", desc := "()I", sig := { parameters := [], returnType := some .int }, accessFlags := 1, code := some k2c26 }
def k2c27 : Code := { maxStack := 2, maxLocals := 3, code := prog_1_method_33_code, exceptionTable := #[], attributes := #[] }
def k2m27 : Method := { name := "error", desc := "(I)I", sig := { parameters := [.int], returnType := some .int }, accessFlags := 1, code := some k2c27 }
def k2c28 : Code := { maxStack := 1, maxLocals := 1, code := prog_1_method_34_code, exceptionTable := #[], attributes := #[] }
def k2m28 : Method := { name := "nodeCount", desc := "()I", sig := { parameters := [], returnType := some .int }, accessFlags := 1, code := some k2c28 }
def k2c29 : Code := { maxStack := 2, maxLocals := 2, code := prog_1_method_35_code, exceptionTable := #[], attributes := #[] }
def k2m29 : Method := { name := "nodeSymbol", desc := "(I)I", sig := { parameters := [.int], returnType := some .int }, accessFlags := 1, code := some k2c29 }
def k2c30 : Code := { maxStack := 2, maxLocals := 2, code := prog_1_method_36_code, exceptionTable := #[], attributes := #[] }
def k2m30 : Method := { name := "nodeParent", desc := "(I)I", sig := { parameters := [.int], returnType := some .int }, accessFlags := 1, code := some k2c30 }
def k2c31 : Code := { maxStack := 2, maxLocals := 2, code := prog_1_method_37_code, exceptionTable := #[], attributes := #[] }
def k2m31 : Method := { name := "nodeDetail", desc := "(I)I", sig := { parameters := [.int], returnType := some .int }, accessFlags := 1, code := some k2c31 }
/-- Ll1RecoverGen -/
def k2 : Class := { plain "Ll1RecoverGen" (some 0) with
  accessFlags := 49
  interfaces := #[]
  cf := some (fileOf pool2 8 #[] #[{ accessFlags := 1, nameIndex := 5, descriptorIndex := 134, attributes := #[] }, { accessFlags := 2, nameIndex := 55, descriptorIndex := 56, attributes := #[] }, { accessFlags := 1, nameIndex := 186, descriptorIndex := 127, attributes := #[] }, { accessFlags := 1, nameIndex := 187, descriptorIndex := 95, attributes := #[] }, { accessFlags := 2, nameIndex := 94, descriptorIndex := 95, attributes := #[] }, { accessFlags := 1, nameIndex := 188, descriptorIndex := 145, attributes := #[] }, { accessFlags := 2, nameIndex := 111, descriptorIndex := 112, attributes := #[] }, { accessFlags := 2, nameIndex := 115, descriptorIndex := 116, attributes := #[] }, { accessFlags := 2, nameIndex := 98, descriptorIndex := 99, attributes := #[] }, { accessFlags := 2, nameIndex := 102, descriptorIndex := 99, attributes := #[] }, { accessFlags := 2, nameIndex := 105, descriptorIndex := 99, attributes := #[] }, { accessFlags := 2, nameIndex := 119, descriptorIndex := 95, attributes := #[] }, { accessFlags := 2, nameIndex := 126, descriptorIndex := 127, attributes := #[] }, { accessFlags := 2, nameIndex := 108, descriptorIndex := 6, attributes := #[] }, { accessFlags := 2, nameIndex := 122, descriptorIndex := 123, attributes := #[] }, { accessFlags := 1, nameIndex := 194, descriptorIndex := 95, attributes := #[] }, { accessFlags := 1, nameIndex := 195, descriptorIndex := 145, attributes := #[] }, { accessFlags := 2, nameIndex := 144, descriptorIndex := 145, attributes := #[] }, { accessFlags := 2, nameIndex := 140, descriptorIndex := 141, attributes := #[] }, { accessFlags := 2, nameIndex := 130, descriptorIndex := 6, attributes := #[] }, { accessFlags := 2, nameIndex := 133, descriptorIndex := 134, attributes := #[] }, { accessFlags := 2, nameIndex := 137, descriptorIndex := 112, attributes := #[] }, { accessFlags := 2, nameIndex := 148, descriptorIndex := 112, attributes := #[] }, { accessFlags := 2, nameIndex := 154, descriptorIndex := 123, attributes := #[] }, { accessFlags := 2, nameIndex := 157, descriptorIndex := 127, attributes := #[] }, { accessFlags := 2, nameIndex := 151, descriptorIndex := 123, attributes := #[] }, { accessFlags := 1, nameIndex := 78, descriptorIndex := 145, attributes := #[] }, { accessFlags := 1, nameIndex := 196, descriptorIndex := 127, attributes := #[] }, { accessFlags := 1, nameIndex := 72, descriptorIndex := 145, attributes := #[] }, { accessFlags := 1, nameIndex := 197, descriptorIndex := 127, attributes := #[] }, { accessFlags := 1, nameIndex := 198, descriptorIndex := 127, attributes := #[] }, { accessFlags := 1, nameIndex := 199, descriptorIndex := 127, attributes := #[] }] 49 2 #[] #[{ accessFlags := 25, nameIndex := 158, descriptorIndex := 60, attributes := #[] }, { accessFlags := 25, nameIndex := 161, descriptorIndex := 60, attributes := #[] }, { accessFlags := 25, nameIndex := 163, descriptorIndex := 60, attributes := #[] }, { accessFlags := 25, nameIndex := 164, descriptorIndex := 60, attributes := #[] }, { accessFlags := 25, nameIndex := 166, descriptorIndex := 60, attributes := #[] }, { accessFlags := 25, nameIndex := 168, descriptorIndex := 60, attributes := #[] }, { accessFlags := 25, nameIndex := 170, descriptorIndex := 60, attributes := #[] }, { accessFlags := 25, nameIndex := 172, descriptorIndex := 60, attributes := #[] }, { accessFlags := 25, nameIndex := 174, descriptorIndex := 60, attributes := #[] }, { accessFlags := 25, nameIndex := 175, descriptorIndex := 60, attributes := #[] }, { accessFlags := 25, nameIndex := 177, descriptorIndex := 60, attributes := #[] }, { accessFlags := 25, nameIndex := 179, descriptorIndex := 60, attributes := #[] }, { accessFlags := 25, nameIndex := 180, descriptorIndex := 60, attributes := #[] }, { accessFlags := 25, nameIndex := 181, descriptorIndex := 60, attributes := #[] }, { accessFlags := 2, nameIndex := 59, descriptorIndex := 60, attributes := #[] }, { accessFlags := 2, nameIndex := 63, descriptorIndex := 60, attributes := #[] }, { accessFlags := 2, nameIndex := 66, descriptorIndex := 60, attributes := #[] }, { accessFlags := 2, nameIndex := 69, descriptorIndex := 60, attributes := #[] }, { accessFlags := 2, nameIndex := 72, descriptorIndex := 60, attributes := #[] }, { accessFlags := 2, nameIndex := 75, descriptorIndex := 60, attributes := #[] }, { accessFlags := 2, nameIndex := 78, descriptorIndex := 60, attributes := #[] }, { accessFlags := 2, nameIndex := 81, descriptorIndex := 60, attributes := #[] }, { accessFlags := 2, nameIndex := 84, descriptorIndex := 60, attributes := #[] }, { accessFlags := 2, nameIndex := 87, descriptorIndex := 88, attributes := #[] }, { accessFlags := 2, nameIndex := 91, descriptorIndex := 88, attributes := #[] }, { accessFlags := 2, nameIndex := 11, descriptorIndex := 12, attributes := #[] }, { accessFlags := 2, nameIndex := 15, descriptorIndex := 12, attributes := #[] }, { accessFlags := 2, nameIndex := 18, descriptorIndex := 12, attributes := #[] }, { accessFlags := 2, nameIndex := 21, descriptorIndex := 22, attributes := #[] }, { accessFlags := 2, nameIndex := 25, descriptorIndex := 12, attributes := #[] }, { accessFlags := 2, nameIndex := 28, descriptorIndex := 12, attributes := #[] }, { accessFlags := 2, nameIndex := 31, descriptorIndex := 12, attributes := #[] }, { accessFlags := 2, nameIndex := 34, descriptorIndex := 12, attributes := #[] }, { accessFlags := 2, nameIndex := 37, descriptorIndex := 12, attributes := #[] }, { accessFlags := 2, nameIndex := 40, descriptorIndex := 12, attributes := #[] }, { accessFlags := 2, nameIndex := 43, descriptorIndex := 12, attributes := #[] }, { accessFlags := 2, nameIndex := 46, descriptorIndex := 12, attributes := #[] }, { accessFlags := 2, nameIndex := 49, descriptorIndex := 12, attributes := #[] }, { accessFlags := 2, nameIndex := 52, descriptorIndex := 12, attributes := #[] }])
  fields := #[{ name := "NT_BASE", type := .int, accessFlags := 25, slot := 0, constantValue := 0 }, { name := "END", type := .int, accessFlags := 25, slot := 1, constantValue := 0 }, { name := "MAX_RULES", type := .int, accessFlags := 25, slot := 2, constantValue := 0 }, { name := "MAX_RHS", type := .int, accessFlags := 25, slot := 3, constantValue := 0 }, { name := "MAX_TOKENS", type := .int, accessFlags := 25, slot := 4, constantValue := 0 }, { name := "MAX_NODES", type := .int, accessFlags := 25, slot := 5, constantValue := 0 }, { name := "MAX_ERRORS", type := .int, accessFlags := 25, slot := 6, constantValue := 0 }, { name := "REFUSED", type := .int, accessFlags := 25, slot := 7, constantValue := 0 }, { name := "STATUS_OK", type := .int, accessFlags := 25, slot := 8, constantValue := 0 }, { name := "STATUS_RECOVERED", type := .int, accessFlags := 25, slot := 9, constantValue := 0 }, { name := "STATUS_OVERFLOW", type := .int, accessFlags := 25, slot := 10, constantValue := 0 }, { name := "ERR_MISSING", type := .int, accessFlags := 25, slot := 11, constantValue := 0 }, { name := "ERR_SKIP", type := .int, accessFlags := 25, slot := 12, constantValue := 0 }, { name := "ERR_ABANDON", type := .int, accessFlags := 25, slot := 13, constantValue := 0 }, { name := "nNt", type := .int, accessFlags := 2, slot := 0, constantValue := 0 }, { name := "nT", type := .int, accessFlags := 2, slot := 1, constantValue := 0 }, { name := "ruleCount", type := .int, accessFlags := 2, slot := 2, constantValue := 0 }, { name := "tokenCount", type := .int, accessFlags := 2, slot := 3, constantValue := 0 }, { name := "nodeCount", type := .int, accessFlags := 2, slot := 4, constantValue := 0 }, { name := "conflictCount", type := .int, accessFlags := 2, slot := 5, constantValue := 0 }, { name := "errorCount", type := .int, accessFlags := 2, slot := 6, constantValue := 0 }, { name := "sp", type := .int, accessFlags := 2, slot := 7, constantValue := 0 }, { name := "pos", type := .int, accessFlags := 2, slot := 8, constantValue := 0 }, { name := "built", type := .boolean, accessFlags := 2, slot := 9, constantValue := 0 }, { name := "parsed", type := .boolean, accessFlags := 2, slot := 10, constantValue := 0 }, { name := "ruleLhs", type := (.array .int), accessFlags := 2, slot := 11, constantValue := 0 }, { name := "ruleLen", type := (.array .int), accessFlags := 2, slot := 12, constantValue := 0 }, { name := "ruleRhs", type := (.array .int), accessFlags := 2, slot := 13, constantValue := 0 }, { name := "nullableNt", type := (.array .boolean), accessFlags := 2, slot := 14, constantValue := 0 }, { name := "firstNt", type := (.array .int), accessFlags := 2, slot := 15, constantValue := 0 }, { name := "followNt", type := (.array .int), accessFlags := 2, slot := 16, constantValue := 0 }, { name := "table", type := (.array .int), accessFlags := 2, slot := 17, constantValue := 0 }, { name := "conflicts", type := (.array .int), accessFlags := 2, slot := 18, constantValue := 0 }, { name := "tokens", type := (.array .int), accessFlags := 2, slot := 19, constantValue := 0 }, { name := "nodeSym", type := (.array .int), accessFlags := 2, slot := 20, constantValue := 0 }, { name := "nodePar", type := (.array .int), accessFlags := 2, slot := 21, constantValue := 0 }, { name := "nodeDet", type := (.array .int), accessFlags := 2, slot := 22, constantValue := 0 }, { name := "stack", type := (.array .int), accessFlags := 2, slot := 23, constantValue := 0 }, { name := "errors", type := (.array .int), accessFlags := 2, slot := 24, constantValue := 0 }]
  methods := #[k2m0, k2m1, k2m2, k2m3, k2m4, k2m5, k2m6, k2m7, k2m8, k2m9, k2m10, k2m11, k2m12, k2m13, k2m14, k2m15, k2m16, k2m17, k2m18, k2m19, k2m20, k2m21, k2m22, k2m23, k2m24, k2m25, k2m26, k2m27, k2m28, k2m29, k2m30, k2m31]
  instanceTypes := #[.int, .int, .int, .int, .int, .int, .int, .int, .int, .boolean, .boolean, (.array .int), (.array .int), (.array .int), (.array .boolean), (.array .int), (.array .int), (.array .int), (.array .int), (.array .int), (.array .int), (.array .int), (.array .int), (.array .int), (.array .int)]
  staticTypes := #[.int, .int, .int, .int, .int, .int, .int, .int, .int, .int, .int, .int, .int, .int]
  resolved := Array.replicate 202 none
  statics := none }

def pool3 : Array CpInfo := pool [(1, u "java/lang/Cloneable"), (0, .class_ 1), (0, u "java/lang/Object"), (0, .class_ 3)] 3

/-- java/lang/Cloneable -/
def k3 : Class := { plain "java/lang/Cloneable" (some 0) with
  accessFlags := 1537
  interfaces := #[]
  cf := some (fileOf pool3 2 #[] #[] 1537 4 #[] #[])
  fields := #[]
  methods := #[]
  instanceTypes := #[]
  staticTypes := #[]
  resolved := Array.replicate 8 none
  statics := none }

def pool4 : Array CpInfo := pool [(1, u "java/io/Serializable"), (0, .class_ 1), (0, u "java/lang/Object"), (0, .class_ 3)] 3

/-- java/io/Serializable -/
def k4 : Class := { plain "java/io/Serializable" (some 0) with
  accessFlags := 1537
  interfaces := #[]
  cf := some (fileOf pool4 2 #[] #[] 1537 4 #[] #[])
  fields := #[]
  methods := #[]
  instanceTypes := #[]
  staticTypes := #[]
  resolved := Array.replicate 8 none
  statics := none }

/-- the primitive boolean -/
def k5 : Class := { plain "boolean" none with kind := .primitive 'Z', accessFlags := 0x411 }
/-- [Z -/
def k6 : Class := { plain "[Z" (some 0) with kind := .array 5 .boolean, interfaces := #[3, 4], accessFlags := 1041 }

/-- the primitive byte -/
def k7 : Class := { plain "byte" none with kind := .primitive 'B', accessFlags := 0x411 }
/-- [B -/
def k8 : Class := { plain "[B" (some 0) with kind := .array 7 .byte, interfaces := #[3, 4], accessFlags := 1041 }

/-- the primitive int -/
def k9 : Class := { plain "int" none with kind := .primitive 'I', accessFlags := 0x411 }
/-- [I -/
def k10 : Class := { plain "[I" (some 0) with kind := .array 9 .int, interfaces := #[3, 4], accessFlags := 1041 }

def heap : Heap := #[{ cls := 10, slots := #[.int 1, .int 2, .int 3], vm := .none }]
def classes : Array Class := #[k0, k1, k2, k3, k4, k5, k6, k7, k8, k9, k10]
def interned : List (Array UInt16 × Addr) := []
def slotsUsed : Nat := 3
def theMethod : MethodId := ⟨1, 9⟩
def args0 : Array Value := #[.ref 0]
def aboutOver (below : List Frame) : State where
  vm := { classes := classes, interned := interned.toArray }
  heap := heap
  slotsUsed := slotsUsed
  threads := #[{ frames := .invoking theMethod args0 :: below }]
def below0 : List Frame := [.native { method := ⟨0, 0⟩, args := #[] }]
def about1 : State := aboutOver below0
def p0 : Program := .bare "" "" ""
def e0 : Env := launch0.env 0 0 0
theorem w_frames : about1.frames = Frame.invoking theMethod args0 :: below0 := rfl
set_option maxRecDepth 65536 in
theorem w_args : argsFit about1.vm theMethod args0 = true := by decide +kernel
set_option maxRecDepth 65536 in
theorem w_heap : heapFits about1 = true := by decide +kernel
set_option maxRecDepth 65536 in
theorem w_runnable : about1.curStatus? = some .runnable := by decide +kernel
set_option maxRecDepth 65536 in
theorem w_alone : about1.alone = true := by decide +kernel
set_option maxRecDepth 65536 in
theorem w_named : about1.methodNamed? x = some theMethod := by decide +kernel
set_option maxRecDepth 65536 in
theorem w_hears : about1.hears theMethod below0 = true := by decide +kernel
set_option maxRecDepth 65536 in
theorem w_ripe : about1.ripe theMethod args0 below0 = true := by decide +kernel
theorem w_running : about1.status = .running := rfl
set_option maxRecDepth 65536 in
theorem w_room : about1.hasRoom e0.platform room_1 = true :=
  launch0.hasRoom_least _ room_1 (by decide +kernel) (by decide +kernel) (by decide +kernel) (by decide +kernel) (by decide +kernel) (by decide +kernel)
theorem allAtoms_all (ts : List Jvm.Cond) (a : Array Jvm.Value) (st : Jvm.State) : (allAtoms ts).before a st = ts.all (fun c => c.before a st) := by
  induction ts with
  | nil => rfl
  | cons c t ih =>
    show (Jvm.Cond.and c (allAtoms t)).before a st = _
    rw [Jvm.Cond.before_and, ih, List.all_cons]
def words1 : List Jvm.Cond := Jvm.Cond.code x code maxLocals ret :: tables_1
/-- a 'code' word, met by the world's own term for the bytes: nothing is compared byte by byte -/
theorem code_word {y : MethodName} {bytes : ByteArray} {mx : Nat} {rt : Option FieldType} {a : Array Value} {s : State} {m : MethodId} {meth : Method} {c : Code} (h1 : s.methodNamed? y = some m) (h2 : s.vm.method? m = some meth) (h3 : meth.code = some c) (h4 : c.code = bytes)
    (h5 : (c.maxLocals == mx && c.exceptionTable.isEmpty && decide (c.maxStack ≤ mostOperands) && decide (meth.sig.returnType = rt) && !meth.locks && decide (parseMethodDescriptor y.desc = some meth.sig)) = true) : (Jvm.Cond.code y bytes mx rt).before a s = true := by
  simp only [Bool.and_eq_true, beq_iff_eq, Bool.not_eq_true', decide_eq_true_eq] at h5
  obtain ⟨⟨⟨⟨⟨g1, g2⟩, g3⟩, g4⟩, g5⟩, g6⟩ := h5
  simp [Cond.before, Cond.holds, Cond.value, h1, h2, h3, h4, g1, g2, g3, g4, g5, g6]
def isCode : Jvm.Cond → Bool
  | .code _ _ _ _ => true
  | _ => false
theorem all_split {L : List Jvm.Cond} {P : Jvm.Cond → Bool} (h1 : L.all (fun c => isCode c || P c) = true) (h2 : ∀ c ∈ L.filter isCode, P c = true) : L.all P = true := by
  refine List.all_eq_true.mpr fun c hc => ?_
  have h := List.all_eq_true.mp h1 c hc
  rcases Bool.eq_false_or_eq_true (isCode c) with hi | hi
  · exact h2 c (List.mem_filter.mpr ⟨hc, hi⟩)
  · simpa [hi] using h
set_option maxRecDepth 65536 in
theorem w_c0 : (Jvm.Cond.code x code maxLocals ret).before args0 about1 = true := code_word (m := ⟨1, 9⟩) (meth := k1m9) (c := k1c9) (by decide +kernel) rfl rfl rfl (by decide +kernel)
set_option maxRecDepth 65536 in
theorem w_c1 : (Jvm.Cond.code ({ cls := "Ll1RecoverGenOwnLaw", name := "nN", desc := "([I)I" } : Jvm.MethodName) method_3_code (1 : Nat) (Option.some Jvm.ClassFile.FieldType.int)).before args0 about1 = true := code_word (m := ⟨1, 2⟩) (meth := k1m2) (c := k1c2) (by decide +kernel) rfl rfl rfl (by decide +kernel)
set_option maxRecDepth 65536 in
theorem w_c2 : (Jvm.Cond.code ({ cls := "Ll1RecoverGenOwnLaw", name := "cell", desc := "([II)I" } : Jvm.MethodName) method_2_code (2 : Nat) (Option.some Jvm.ClassFile.FieldType.int)).before args0 about1 = true := code_word (m := ⟨1, 1⟩) (meth := k1m1) (c := k1c1) (by decide +kernel) rfl rfl rfl (by decide +kernel)
set_option maxRecDepth 65536 in
theorem w_c3 : (Jvm.Cond.code ({ cls := "Ll1RecoverGenOwnLaw", name := "nT", desc := "([I)I" } : Jvm.MethodName) method_4_code (1 : Nat) (Option.some Jvm.ClassFile.FieldType.int)).before args0 about1 = true := code_word (m := ⟨1, 3⟩) (meth := k1m3) (c := k1c3) (by decide +kernel) rfl rfl rfl (by decide +kernel)
set_option maxRecDepth 65536 in
theorem w_c4 : (Jvm.Cond.code ({ cls := "Ll1RecoverGen", name := "<init>", desc := "(II)V" } : Jvm.MethodName) prog_1_method_1_code (3 : Nat) (Option.none : Option Jvm.ClassFile.FieldType)).before args0 about1 = true := code_word (m := ⟨2, 0⟩) (meth := k2m0) (c := k2c0) (by decide +kernel) rfl rfl rfl (by decide +kernel)
set_option maxRecDepth 65536 in
theorem w_c5 : (Jvm.Cond.code ({ cls := "java/lang/Object", name := "<init>", desc := "()V" } : Jvm.MethodName) object_method_1_code (1 : Nat) (Option.none : Option Jvm.ClassFile.FieldType)).before args0 about1 = true := code_word (m := ⟨0, 0⟩) (meth := k0m0) (c := k0c0) (by decide +kernel) rfl rfl rfl (by decide +kernel)
set_option maxRecDepth 65536 in
theorem w_c6 : (Jvm.Cond.code ({ cls := "Ll1RecoverGen", name := "clamp", desc := "(III)I" } : Jvm.MethodName) prog_1_method_2_code (4 : Nat) (Option.some Jvm.ClassFile.FieldType.int)).before args0 about1 = true := code_word (m := ⟨2, 1⟩) (meth := k2m1) (c := k2c1) (by decide +kernel) rfl rfl rfl (by decide +kernel)
set_option maxRecDepth 65536 in
theorem w_c7 : (Jvm.Cond.code ({ cls := "Ll1RecoverGenOwnLaw", name := "nR", desc := "([I)I" } : Jvm.MethodName) method_5_code (1 : Nat) (Option.some Jvm.ClassFile.FieldType.int)).before args0 about1 = true := code_word (m := ⟨1, 4⟩) (meth := k1m4) (c := k1c4) (by decide +kernel) rfl rfl rfl (by decide +kernel)
set_option maxRecDepth 65536 in
theorem w_c8 : (Jvm.Cond.code ({ cls := "Ll1RecoverGenOwnLaw", name := "lhs", desc := "([II)I" } : Jvm.MethodName) method_6_code (2 : Nat) (Option.some Jvm.ClassFile.FieldType.int)).before args0 about1 = true := code_word (m := ⟨1, 5⟩) (meth := k1m5) (c := k1c5) (by decide +kernel) rfl rfl rfl (by decide +kernel)
set_option maxRecDepth 65536 in
theorem w_c9 : (Jvm.Cond.code ({ cls := "Ll1RecoverGen", name := "beginRule", desc := "(I)I" } : Jvm.MethodName) prog_1_method_3_code (3 : Nat) (Option.some Jvm.ClassFile.FieldType.int)).before args0 about1 = true := code_word (m := ⟨2, 2⟩) (meth := k2m2) (c := k2c2) (by decide +kernel) rfl rfl rfl (by decide +kernel)
set_option maxRecDepth 65536 in
theorem w_c10 : (Jvm.Cond.code ({ cls := "Ll1RecoverGenOwnLaw", name := "len", desc := "([II)I" } : Jvm.MethodName) method_7_code (2 : Nat) (Option.some Jvm.ClassFile.FieldType.int)).before args0 about1 = true := code_word (m := ⟨1, 6⟩) (meth := k1m6) (c := k1c6) (by decide +kernel) rfl rfl rfl (by decide +kernel)
set_option maxRecDepth 65536 in
theorem w_c11 : (Jvm.Cond.code ({ cls := "Ll1RecoverGenOwnLaw", name := "sym", desc := "([III)I" } : Jvm.MethodName) method_8_code (4 : Nat) (Option.some Jvm.ClassFile.FieldType.int)).before args0 about1 = true := code_word (m := ⟨1, 7⟩) (meth := k1m7) (c := k1c7) (by decide +kernel) rfl rfl rfl (by decide +kernel)
set_option maxRecDepth 65536 in
theorem w_c12 : (Jvm.Cond.code ({ cls := "Ll1RecoverGen", name := "addSymbol", desc := "(I)Z" } : Jvm.MethodName) prog_1_method_4_code (3 : Nat) (Option.some Jvm.ClassFile.FieldType.boolean)).before args0 about1 = true := code_word (m := ⟨2, 3⟩) (meth := k2m3) (c := k2c3) (by decide +kernel) rfl rfl rfl (by decide +kernel)
set_option maxRecDepth 65536 in
theorem w_c13 : (Jvm.Cond.code ({ cls := "Ll1RecoverGen", name := "validSymbol", desc := "(I)Z" } : Jvm.MethodName) prog_1_method_5_code (2 : Nat) (Option.some Jvm.ClassFile.FieldType.boolean)).before args0 about1 = true := code_word (m := ⟨2, 4⟩) (meth := k2m4) (c := k2c4) (by decide +kernel) rfl rfl rfl (by decide +kernel)
set_option maxRecDepth 65536 in
theorem w_c14 : (Jvm.Cond.code ({ cls := "Ll1RecoverGen", name := "build", desc := "()I" } : Jvm.MethodName) prog_1_method_6_code (2 : Nat) (Option.some Jvm.ClassFile.FieldType.int)).before args0 about1 = true := code_word (m := ⟨2, 5⟩) (meth := k2m5) (c := k2c5) (by decide +kernel) rfl rfl rfl (by decide +kernel)
set_option maxRecDepth 65536 in
theorem w_c15 : (Jvm.Cond.code ({ cls := "Ll1RecoverGen", name := "nullablePass", desc := "()Z" } : Jvm.MethodName) prog_1_method_9_code (4 : Nat) (Option.some Jvm.ClassFile.FieldType.boolean)).before args0 about1 = true := code_word (m := ⟨2, 8⟩) (meth := k2m8) (c := k2c8) (by decide +kernel) rfl rfl rfl (by decide +kernel)
set_option maxRecDepth 65536 in
theorem w_c16 : (Jvm.Cond.code ({ cls := "Ll1RecoverGen", name := "seqNullable", desc := "(II)Z" } : Jvm.MethodName) prog_1_method_7_code (6 : Nat) (Option.some Jvm.ClassFile.FieldType.boolean)).before args0 about1 = true := code_word (m := ⟨2, 6⟩) (meth := k2m6) (c := k2c6) (by decide +kernel) rfl rfl rfl (by decide +kernel)
set_option maxRecDepth 65536 in
theorem w_c17 : (Jvm.Cond.code ({ cls := "Ll1RecoverGen", name := "firstPass", desc := "()Z" } : Jvm.MethodName) prog_1_method_10_code (5 : Nat) (Option.some Jvm.ClassFile.FieldType.boolean)).before args0 about1 = true := code_word (m := ⟨2, 9⟩) (meth := k2m9) (c := k2c9) (by decide +kernel) rfl rfl rfl (by decide +kernel)
set_option maxRecDepth 65536 in
theorem w_c18 : (Jvm.Cond.code ({ cls := "Ll1RecoverGen", name := "firstOfSeq", desc := "(II)I" } : Jvm.MethodName) prog_1_method_8_code (7 : Nat) (Option.some Jvm.ClassFile.FieldType.int)).before args0 about1 = true := code_word (m := ⟨2, 7⟩) (meth := k2m7) (c := k2c7) (by decide +kernel) rfl rfl rfl (by decide +kernel)
set_option maxRecDepth 65536 in
theorem w_c19 : (Jvm.Cond.code ({ cls := "Ll1RecoverGen", name := "followPass", desc := "()Z" } : Jvm.MethodName) prog_1_method_11_code (3 : Nat) (Option.some Jvm.ClassFile.FieldType.boolean)).before args0 about1 = true := code_word (m := ⟨2, 10⟩) (meth := k2m10) (c := k2c10) (by decide +kernel) rfl rfl rfl (by decide +kernel)
set_option maxRecDepth 65536 in
theorem w_c20 : (Jvm.Cond.code ({ cls := "Ll1RecoverGen", name := "followRule", desc := "(I)Z" } : Jvm.MethodName) prog_1_method_12_code (9 : Nat) (Option.some Jvm.ClassFile.FieldType.boolean)).before args0 about1 = true := code_word (m := ⟨2, 11⟩) (meth := k2m11) (c := k2c11) (by decide +kernel) rfl rfl rfl (by decide +kernel)
set_option maxRecDepth 65536 in
theorem w_c21 : (Jvm.Cond.code ({ cls := "Ll1RecoverGen", name := "fillTable", desc := "()V" } : Jvm.MethodName) prog_1_method_14_code (2 : Nat) (Option.none : Option Jvm.ClassFile.FieldType)).before args0 about1 = true := code_word (m := ⟨2, 13⟩) (meth := k2m13) (c := k2c13) (by decide +kernel) rfl rfl rfl (by decide +kernel)
set_option maxRecDepth 65536 in
theorem w_c22 : (Jvm.Cond.code ({ cls := "Ll1RecoverGen", name := "fillRule", desc := "(I)V" } : Jvm.MethodName) prog_1_method_15_code (7 : Nat) (Option.none : Option Jvm.ClassFile.FieldType)).before args0 about1 = true := code_word (m := ⟨2, 14⟩) (meth := k2m14) (c := k2c14) (by decide +kernel) rfl rfl rfl (by decide +kernel)
set_option maxRecDepth 65536 in
theorem w_c23 : (Jvm.Cond.code ({ cls := "Ll1RecoverGen", name := "predict", desc := "(I)I" } : Jvm.MethodName) prog_1_method_13_code (3 : Nat) (Option.some Jvm.ClassFile.FieldType.int)).before args0 about1 = true := code_word (m := ⟨2, 12⟩) (meth := k2m12) (c := k2c12) (by decide +kernel) rfl rfl rfl (by decide +kernel)
set_option maxRecDepth 65536 in
theorem w_c24 : (Jvm.Cond.code ({ cls := "Ll1RecoverGen", name := "parse", desc := "()I" } : Jvm.MethodName) prog_1_method_22_code (4 : Nat) (Option.some Jvm.ClassFile.FieldType.int)).before args0 about1 = true := code_word (m := ⟨2, 16⟩) (meth := k2m16) (c := k2c16) (by decide +kernel) rfl rfl rfl (by decide +kernel)
set_option maxRecDepth 65536 in
theorem w_c25 : (Jvm.Cond.code ({ cls := "Ll1RecoverGen", name := "expandOrRecover", desc := "(II)Z" } : Jvm.MethodName) prog_1_method_27_code (5 : Nat) (Option.some Jvm.ClassFile.FieldType.boolean)).before args0 about1 = true := code_word (m := ⟨2, 21⟩) (meth := k2m21) (c := k2c21) (by decide +kernel) rfl rfl rfl (by decide +kernel)
set_option maxRecDepth 65536 in
theorem w_c26 : (Jvm.Cond.code ({ cls := "Ll1RecoverGen", name := "lookahead", desc := "()I" } : Jvm.MethodName) prog_1_method_23_code (1 : Nat) (Option.some Jvm.ClassFile.FieldType.int)).before args0 about1 = true := code_word (m := ⟨2, 17⟩) (meth := k2m17) (c := k2c17) (by decide +kernel) rfl rfl rfl (by decide +kernel)
set_option maxRecDepth 65536 in
theorem w_c27 : (Jvm.Cond.code ({ cls := "Ll1RecoverGen", name := "recover", desc := "(I)V" } : Jvm.MethodName) prog_1_method_31_code (5 : Nat) (Option.none : Option Jvm.ClassFile.FieldType)).before args0 about1 = true := code_word (m := ⟨2, 25⟩) (meth := k2m25) (c := k2c25) (by decide +kernel) rfl rfl rfl (by decide +kernel)
set_option maxRecDepth 65536 in
theorem w_c28 : (Jvm.Cond.code ({ cls := "Ll1RecoverGen", name := "syncSet", desc := "(I)I" } : Jvm.MethodName) prog_1_method_30_code (5 : Nat) (Option.some Jvm.ClassFile.FieldType.int)).before args0 about1 = true := code_word (m := ⟨2, 24⟩) (meth := k2m24) (c := k2c24) (by decide +kernel) rfl rfl rfl (by decide +kernel)
set_option maxRecDepth 65536 in
theorem w_c29 : (Jvm.Cond.code ({ cls := "Ll1RecoverGen", name := "record", desc := "(III)V" } : Jvm.MethodName) prog_1_method_24_code (4 : Nat) (Option.none : Option Jvm.ClassFile.FieldType)).before args0 about1 = true := code_word (m := ⟨2, 18⟩) (meth := k2m18) (c := k2c18) (by decide +kernel) rfl rfl rfl (by decide +kernel)
set_option maxRecDepth 65536 in
theorem w_c30 : (Jvm.Cond.code ({ cls := "Ll1RecoverGen", name := "skipRest", desc := "()V" } : Jvm.MethodName) prog_1_method_25_code (2 : Nat) (Option.none : Option Jvm.ClassFile.FieldType)).before args0 about1 = true := code_word (m := ⟨2, 19⟩) (meth := k2m19) (c := k2c19) (by decide +kernel) rfl rfl rfl (by decide +kernel)
set_option maxRecDepth 65536 in
theorem w_c31 : (Jvm.Cond.code ({ cls := "Ll1RecoverGen", name := "nodeCount", desc := "()I" } : Jvm.MethodName) prog_1_method_34_code (1 : Nat) (Option.some Jvm.ClassFile.FieldType.int)).before args0 about1 = true := code_word (m := ⟨2, 28⟩) (meth := k2m28) (c := k2c28) (by decide +kernel) rfl rfl rfl (by decide +kernel)
set_option maxRecDepth 65536 in
theorem w_c32 : (Jvm.Cond.code ({ cls := "Ll1RecoverGen", name := "errorCount", desc := "()I" } : Jvm.MethodName) prog_1_method_32_code (1 : Nat) (Option.some Jvm.ClassFile.FieldType.int)).before args0 about1 = true := code_word (m := ⟨2, 26⟩) (meth := k2m26) (c := k2c26) (by decide +kernel) rfl rfl rfl (by decide +kernel)
set_option maxRecDepth 65536 in
theorem w_c33 : (Jvm.Cond.code ({ cls := "Ll1RecoverGen", name := "nodeSymbol", desc := "(I)I" } : Jvm.MethodName) prog_1_method_35_code (2 : Nat) (Option.some Jvm.ClassFile.FieldType.int)).before args0 about1 = true := code_word (m := ⟨2, 29⟩) (meth := k2m29) (c := k2c29) (by decide +kernel) rfl rfl rfl (by decide +kernel)
set_option maxRecDepth 65536 in
theorem w_c34 : (Jvm.Cond.code ({ cls := "Ll1RecoverGen", name := "nodeDetail", desc := "(I)I" } : Jvm.MethodName) prog_1_method_37_code (2 : Nat) (Option.some Jvm.ClassFile.FieldType.int)).before args0 about1 = true := code_word (m := ⟨2, 31⟩) (meth := k2m31) (c := k2c31) (by decide +kernel) rfl rfl rfl (by decide +kernel)
set_option maxRecDepth 65536 in
theorem w_c35 : (Jvm.Cond.code ({ cls := "Ll1RecoverGen", name := "nodeParent", desc := "(I)I" } : Jvm.MethodName) prog_1_method_36_code (2 : Nat) (Option.some Jvm.ClassFile.FieldType.int)).before args0 about1 = true := code_word (m := ⟨2, 30⟩) (meth := k2m30) (c := k2c30) (by decide +kernel) rfl rfl rfl (by decide +kernel)
set_option maxRecDepth 65536 in
theorem w_c36 : (Jvm.Cond.code ({ cls := "Ll1RecoverGen", name := "expand", desc := "(II)Z" } : Jvm.MethodName) prog_1_method_28_code (7 : Nat) (Option.some Jvm.ClassFile.FieldType.boolean)).before args0 about1 = true := code_word (m := ⟨2, 22⟩) (meth := k2m22) (c := k2c22) (by decide +kernel) rfl rfl rfl (by decide +kernel)
set_option maxRecDepth 65536 in
theorem w_c37 : (Jvm.Cond.code ({ cls := "Ll1RecoverGen", name := "push", desc := "(I)V" } : Jvm.MethodName) prog_1_method_29_code (2 : Nat) (Option.none : Option Jvm.ClassFile.FieldType)).before args0 about1 = true := code_word (m := ⟨2, 23⟩) (meth := k2m23) (c := k2c23) (by decide +kernel) rfl rfl rfl (by decide +kernel)
set_option maxRecDepth 65536 in
theorem w_c38 : (Jvm.Cond.code ({ cls := "Ll1RecoverGenOwnLaw", name := "tok", desc := "([II)I" } : Jvm.MethodName) method_9_code (2 : Nat) (Option.some Jvm.ClassFile.FieldType.int)).before args0 about1 = true := code_word (m := ⟨1, 8⟩) (meth := k1m8) (c := k1c8) (by decide +kernel) rfl rfl rfl (by decide +kernel)
set_option maxRecDepth 65536 in
theorem w_c39 : (Jvm.Cond.code ({ cls := "Ll1RecoverGen", name := "token", desc := "(I)Z" } : Jvm.MethodName) prog_1_method_21_code (2 : Nat) (Option.some Jvm.ClassFile.FieldType.boolean)).before args0 about1 = true := code_word (m := ⟨2, 15⟩) (meth := k2m15) (c := k2c15) (by decide +kernel) rfl rfl rfl (by decide +kernel)
set_option maxRecDepth 65536 in
theorem w_c40 : (Jvm.Cond.code ({ cls := "Ll1RecoverGen", name := "matchTerminal", desc := "(II)V" } : Jvm.MethodName) prog_1_method_26_code (4 : Nat) (Option.none : Option Jvm.ClassFile.FieldType)).before args0 about1 = true := code_word (m := ⟨2, 20⟩) (meth := k2m20) (c := k2c20) (by decide +kernel) rfl rfl rfl (by decide +kernel)
set_option maxRecDepth 65536 in
theorem w_c41 : (Jvm.Cond.code ({ cls := "Ll1RecoverGen", name := "error", desc := "(I)I" } : Jvm.MethodName) prog_1_method_33_code (3 : Nat) (Option.some Jvm.ClassFile.FieldType.int)).before args0 about1 = true := code_word (m := ⟨2, 27⟩) (meth := k2m27) (c := k2c27) (by decide +kernel) rfl rfl rfl (by decide +kernel)
def codes1 : List Jvm.Cond := [Jvm.Cond.code x code maxLocals ret, Jvm.Cond.code ({ cls := "Ll1RecoverGenOwnLaw", name := "nN", desc := "([I)I" } : Jvm.MethodName) method_3_code (1 : Nat) (Option.some Jvm.ClassFile.FieldType.int), Jvm.Cond.code ({ cls := "Ll1RecoverGenOwnLaw", name := "cell", desc := "([II)I" } : Jvm.MethodName) method_2_code (2 : Nat) (Option.some Jvm.ClassFile.FieldType.int), Jvm.Cond.code ({ cls := "Ll1RecoverGenOwnLaw", name := "nT", desc := "([I)I" } : Jvm.MethodName) method_4_code (1 : Nat) (Option.some Jvm.ClassFile.FieldType.int), Jvm.Cond.code ({ cls := "Ll1RecoverGen", name := "<init>", desc := "(II)V" } : Jvm.MethodName) prog_1_method_1_code (3 : Nat) (Option.none : Option Jvm.ClassFile.FieldType), Jvm.Cond.code ({ cls := "java/lang/Object", name := "<init>", desc := "()V" } : Jvm.MethodName) object_method_1_code (1 : Nat) (Option.none : Option Jvm.ClassFile.FieldType), Jvm.Cond.code ({ cls := "Ll1RecoverGen", name := "clamp", desc := "(III)I" } : Jvm.MethodName) prog_1_method_2_code (4 : Nat) (Option.some Jvm.ClassFile.FieldType.int), Jvm.Cond.code ({ cls := "Ll1RecoverGenOwnLaw", name := "nR", desc := "([I)I" } : Jvm.MethodName) method_5_code (1 : Nat) (Option.some Jvm.ClassFile.FieldType.int), Jvm.Cond.code ({ cls := "Ll1RecoverGenOwnLaw", name := "lhs", desc := "([II)I" } : Jvm.MethodName) method_6_code (2 : Nat) (Option.some Jvm.ClassFile.FieldType.int), Jvm.Cond.code ({ cls := "Ll1RecoverGen", name := "beginRule", desc := "(I)I" } : Jvm.MethodName) prog_1_method_3_code (3 : Nat) (Option.some Jvm.ClassFile.FieldType.int), Jvm.Cond.code ({ cls := "Ll1RecoverGenOwnLaw", name := "len", desc := "([II)I" } : Jvm.MethodName) method_7_code (2 : Nat) (Option.some Jvm.ClassFile.FieldType.int), Jvm.Cond.code ({ cls := "Ll1RecoverGenOwnLaw", name := "sym", desc := "([III)I" } : Jvm.MethodName) method_8_code (4 : Nat) (Option.some Jvm.ClassFile.FieldType.int), Jvm.Cond.code ({ cls := "Ll1RecoverGen", name := "addSymbol", desc := "(I)Z" } : Jvm.MethodName) prog_1_method_4_code (3 : Nat) (Option.some Jvm.ClassFile.FieldType.boolean), Jvm.Cond.code ({ cls := "Ll1RecoverGen", name := "validSymbol", desc := "(I)Z" } : Jvm.MethodName) prog_1_method_5_code (2 : Nat) (Option.some Jvm.ClassFile.FieldType.boolean), Jvm.Cond.code ({ cls := "Ll1RecoverGen", name := "build", desc := "()I" } : Jvm.MethodName) prog_1_method_6_code (2 : Nat) (Option.some Jvm.ClassFile.FieldType.int), Jvm.Cond.code ({ cls := "Ll1RecoverGen", name := "nullablePass", desc := "()Z" } : Jvm.MethodName) prog_1_method_9_code (4 : Nat) (Option.some Jvm.ClassFile.FieldType.boolean), Jvm.Cond.code ({ cls := "Ll1RecoverGen", name := "seqNullable", desc := "(II)Z" } : Jvm.MethodName) prog_1_method_7_code (6 : Nat) (Option.some Jvm.ClassFile.FieldType.boolean), Jvm.Cond.code ({ cls := "Ll1RecoverGen", name := "firstPass", desc := "()Z" } : Jvm.MethodName) prog_1_method_10_code (5 : Nat) (Option.some Jvm.ClassFile.FieldType.boolean), Jvm.Cond.code ({ cls := "Ll1RecoverGen", name := "firstOfSeq", desc := "(II)I" } : Jvm.MethodName) prog_1_method_8_code (7 : Nat) (Option.some Jvm.ClassFile.FieldType.int), Jvm.Cond.code ({ cls := "Ll1RecoverGen", name := "followPass", desc := "()Z" } : Jvm.MethodName) prog_1_method_11_code (3 : Nat) (Option.some Jvm.ClassFile.FieldType.boolean), Jvm.Cond.code ({ cls := "Ll1RecoverGen", name := "followRule", desc := "(I)Z" } : Jvm.MethodName) prog_1_method_12_code (9 : Nat) (Option.some Jvm.ClassFile.FieldType.boolean), Jvm.Cond.code ({ cls := "Ll1RecoverGen", name := "fillTable", desc := "()V" } : Jvm.MethodName) prog_1_method_14_code (2 : Nat) (Option.none : Option Jvm.ClassFile.FieldType), Jvm.Cond.code ({ cls := "Ll1RecoverGen", name := "fillRule", desc := "(I)V" } : Jvm.MethodName) prog_1_method_15_code (7 : Nat) (Option.none : Option Jvm.ClassFile.FieldType), Jvm.Cond.code ({ cls := "Ll1RecoverGen", name := "predict", desc := "(I)I" } : Jvm.MethodName) prog_1_method_13_code (3 : Nat) (Option.some Jvm.ClassFile.FieldType.int), Jvm.Cond.code ({ cls := "Ll1RecoverGen", name := "parse", desc := "()I" } : Jvm.MethodName) prog_1_method_22_code (4 : Nat) (Option.some Jvm.ClassFile.FieldType.int), Jvm.Cond.code ({ cls := "Ll1RecoverGen", name := "expandOrRecover", desc := "(II)Z" } : Jvm.MethodName) prog_1_method_27_code (5 : Nat) (Option.some Jvm.ClassFile.FieldType.boolean), Jvm.Cond.code ({ cls := "Ll1RecoverGen", name := "lookahead", desc := "()I" } : Jvm.MethodName) prog_1_method_23_code (1 : Nat) (Option.some Jvm.ClassFile.FieldType.int), Jvm.Cond.code ({ cls := "Ll1RecoverGen", name := "recover", desc := "(I)V" } : Jvm.MethodName) prog_1_method_31_code (5 : Nat) (Option.none : Option Jvm.ClassFile.FieldType), Jvm.Cond.code ({ cls := "Ll1RecoverGen", name := "syncSet", desc := "(I)I" } : Jvm.MethodName) prog_1_method_30_code (5 : Nat) (Option.some Jvm.ClassFile.FieldType.int), Jvm.Cond.code ({ cls := "Ll1RecoverGen", name := "record", desc := "(III)V" } : Jvm.MethodName) prog_1_method_24_code (4 : Nat) (Option.none : Option Jvm.ClassFile.FieldType), Jvm.Cond.code ({ cls := "Ll1RecoverGen", name := "skipRest", desc := "()V" } : Jvm.MethodName) prog_1_method_25_code (2 : Nat) (Option.none : Option Jvm.ClassFile.FieldType), Jvm.Cond.code ({ cls := "Ll1RecoverGen", name := "nodeCount", desc := "()I" } : Jvm.MethodName) prog_1_method_34_code (1 : Nat) (Option.some Jvm.ClassFile.FieldType.int), Jvm.Cond.code ({ cls := "Ll1RecoverGen", name := "errorCount", desc := "()I" } : Jvm.MethodName) prog_1_method_32_code (1 : Nat) (Option.some Jvm.ClassFile.FieldType.int), Jvm.Cond.code ({ cls := "Ll1RecoverGen", name := "nodeSymbol", desc := "(I)I" } : Jvm.MethodName) prog_1_method_35_code (2 : Nat) (Option.some Jvm.ClassFile.FieldType.int), Jvm.Cond.code ({ cls := "Ll1RecoverGen", name := "nodeDetail", desc := "(I)I" } : Jvm.MethodName) prog_1_method_37_code (2 : Nat) (Option.some Jvm.ClassFile.FieldType.int), Jvm.Cond.code ({ cls := "Ll1RecoverGen", name := "nodeParent", desc := "(I)I" } : Jvm.MethodName) prog_1_method_36_code (2 : Nat) (Option.some Jvm.ClassFile.FieldType.int), Jvm.Cond.code ({ cls := "Ll1RecoverGen", name := "expand", desc := "(II)Z" } : Jvm.MethodName) prog_1_method_28_code (7 : Nat) (Option.some Jvm.ClassFile.FieldType.boolean), Jvm.Cond.code ({ cls := "Ll1RecoverGen", name := "push", desc := "(I)V" } : Jvm.MethodName) prog_1_method_29_code (2 : Nat) (Option.none : Option Jvm.ClassFile.FieldType), Jvm.Cond.code ({ cls := "Ll1RecoverGenOwnLaw", name := "tok", desc := "([II)I" } : Jvm.MethodName) method_9_code (2 : Nat) (Option.some Jvm.ClassFile.FieldType.int), Jvm.Cond.code ({ cls := "Ll1RecoverGen", name := "token", desc := "(I)Z" } : Jvm.MethodName) prog_1_method_21_code (2 : Nat) (Option.some Jvm.ClassFile.FieldType.boolean), Jvm.Cond.code ({ cls := "Ll1RecoverGen", name := "matchTerminal", desc := "(II)V" } : Jvm.MethodName) prog_1_method_26_code (4 : Nat) (Option.none : Option Jvm.ClassFile.FieldType), Jvm.Cond.code ({ cls := "Ll1RecoverGen", name := "error", desc := "(I)I" } : Jvm.MethodName) prog_1_method_33_code (3 : Nat) (Option.some Jvm.ClassFile.FieldType.int)]
set_option maxRecDepth 65536 in
theorem codes_eq : words1.filter isCode = codes1 := rfl
theorem w_codes : ∀ c ∈ words1.filter isCode, c.before args0 about1 = true := by
  rw [codes_eq]
  intro c hc
  simp only [codes1, List.mem_cons, List.not_mem_nil, or_false] at hc
  rcases hc with rfl | rfl | rfl | rfl | rfl | rfl | rfl | rfl | rfl | rfl | rfl | rfl | rfl | rfl | rfl | rfl | rfl | rfl | rfl | rfl | rfl | rfl | rfl | rfl | rfl | rfl | rfl | rfl | rfl | rfl | rfl | rfl | rfl | rfl | rfl | rfl | rfl | rfl | rfl | rfl | rfl | rfl
  · exact w_c0
  · exact w_c1
  · exact w_c2
  · exact w_c3
  · exact w_c4
  · exact w_c5
  · exact w_c6
  · exact w_c7
  · exact w_c8
  · exact w_c9
  · exact w_c10
  · exact w_c11
  · exact w_c12
  · exact w_c13
  · exact w_c14
  · exact w_c15
  · exact w_c16
  · exact w_c17
  · exact w_c18
  · exact w_c19
  · exact w_c20
  · exact w_c21
  · exact w_c22
  · exact w_c23
  · exact w_c24
  · exact w_c25
  · exact w_c26
  · exact w_c27
  · exact w_c28
  · exact w_c29
  · exact w_c30
  · exact w_c31
  · exact w_c32
  · exact w_c33
  · exact w_c34
  · exact w_c35
  · exact w_c36
  · exact w_c37
  · exact w_c38
  · exact w_c39
  · exact w_c40
  · exact w_c41
set_option maxRecDepth 65536 in
theorem w_t1 : (words1.take 24).all (fun c => isCode c || c.before args0 about1) = true := by decide +kernel
set_option maxRecDepth 65536 in
theorem w_t2 : ((words1.drop 24).take 24).all (fun c => isCode c || c.before args0 about1) = true := by decide +kernel
set_option maxRecDepth 65536 in
theorem w_t3 : (((words1.drop 24).drop 24).take 24).all (fun c => isCode c || c.before args0 about1) = true := by decide +kernel
set_option maxRecDepth 65536 in
theorem w_t4 : ((((words1.drop 24).drop 24).drop 24).take 24).all (fun c => isCode c || c.before args0 about1) = true := by decide +kernel
set_option maxRecDepth 65536 in
theorem w_t5 : (((((words1.drop 24).drop 24).drop 24).drop 24).take 24).all (fun c => isCode c || c.before args0 about1) = true := by decide +kernel
set_option maxRecDepth 65536 in
theorem w_t6 : ((((((words1.drop 24).drop 24).drop 24).drop 24).drop 24).take 24).all (fun c => isCode c || c.before args0 about1) = true := by decide +kernel
set_option maxRecDepth 65536 in
theorem w_t7 : (((((((words1.drop 24).drop 24).drop 24).drop 24).drop 24).drop 24).take 24).all (fun c => isCode c || c.before args0 about1) = true := by decide +kernel
set_option maxRecDepth 65536 in
theorem w_t8 : ((((((((words1.drop 24).drop 24).drop 24).drop 24).drop 24).drop 24).drop 24).take 24).all (fun c => isCode c || c.before args0 about1) = true := by decide +kernel
set_option maxRecDepth 65536 in
theorem w_t9 : (((((((((words1.drop 24).drop 24).drop 24).drop 24).drop 24).drop 24).drop 24).drop 24).take 24).all (fun c => isCode c || c.before args0 about1) = true := by decide +kernel
set_option maxRecDepth 65536 in
theorem w_t10 : (((((((((words1.drop 24).drop 24).drop 24).drop 24).drop 24).drop 24).drop 24).drop 24).drop 24).all (fun c => isCode c || c.before args0 about1) = true := by decide +kernel
theorem w_tables : (allAtoms (Jvm.Cond.code x code maxLocals ret :: tables_1)).before args0 about1 = true := by
  rw [allAtoms_all]
  show words1.all (fun c => c.before args0 about1) = true
  refine all_split ?_ w_codes
  rw [← List.take_append_drop 24 words1, List.all_append, w_t1, ← List.take_append_drop 24 (words1.drop 24), List.all_append, w_t2, ← List.take_append_drop 24 ((words1.drop 24).drop 24), List.all_append, w_t3, ← List.take_append_drop 24 (((words1.drop 24).drop 24).drop 24), List.all_append, w_t4, ← List.take_append_drop 24 ((((words1.drop 24).drop 24).drop 24).drop 24), List.all_append, w_t5, ← List.take_append_drop 24 (((((words1.drop 24).drop 24).drop 24).drop 24).drop 24), List.all_append, w_t6, ← List.take_append_drop 24 ((((((words1.drop 24).drop 24).drop 24).drop 24).drop 24).drop 24), List.all_append, w_t7, ← List.take_append_drop 24 (((((((words1.drop 24).drop 24).drop 24).drop 24).drop 24).drop 24).drop 24), List.all_append, w_t8, ← List.take_append_drop 24 ((((((((words1.drop 24).drop 24).drop 24).drop 24).drop 24).drop 24).drop 24).drop 24), List.all_append, w_t9, w_t10]
  rfl
set_option maxRecDepth 65536 in
theorem w_rest : rest_1_c.before args0 about1 = true := by decide +kernel
set_option maxRecDepth 65536 in
theorem w_case : (Jvm.Cond.and given_1 narrow_1).before args0 about1 = true := by decide +kernel
theorem w_applies : (headSpec (Jvm.Cond.code x code maxLocals ret :: tables_1) room_1).applies x e0.platform about1 = true :=
  (Spec.applies_iff w_frames).mpr ⟨w_running, w_runnable, w_alone, w_named, w_hears, w_ripe, w_room, w_tables⟩
theorem atStart : AtStart classFile x code maxLocals ret World_1 tables_1 room_1 Calls_1 rest_1 Pre_1 launch0 p0 e0 about1 theMethod args0 below0 :=
  ⟨lists_1, trivial, launch0.admits_env _ _ _, launch0.least_env, fairChoices_fair.cas, fairChoices_fair.clock, w_frames, w_args, w_heap, w_applies, trivial, w_rest, w_case⟩
end start1
theorem witness_1 : WitnessClaimed_1 := ⟨start1.p0, start1.e0, start1.about1, start1.theMethod, start1.args0, start1.below0, start1.atStart⟩
end Jvm.Pilot.@@N@@
