import JvmDerived
import JvmDerived.Pilot.@@N@@Statement
import JvmDerived.Pilot.@@N@@Code
set_option linter.unusedVariables false
set_option linter.unusedSimpArgs false
@@BLOCK:NumsL.lean.txt@@
namespace Jvm.LM
open Sem ClassFile Op Lib Jvm.Stand Jvm.Free Jvm.LawKit Jvm.RoadKit
/-! A small machine over plain data that mirrors the bytecode of one class and of a law over it. -/
abbrev Lv := List (Option Value)
abbrev St := (Nat → Nat → Int32) × (Nat → Nat → Int64)
abbrev Cd := List (Nat × Instr × Nat)
/-- name, descriptor, kind (0 int, 1 boolean, 2 long, 3+j the j-th array), final -/
abbrev Fe := String × String × Nat × Bool
/-- name, descriptor, number of arguments, return kind (0 none, 1 int, 2 boolean, 3 long), code, max_locals, room: frames, locals -/
abbrev Me := String × String × Nat × Nat × Cd × Nat × Nat × Nat
/-- class name, fields, arrays (kind, length), pool to field, pool to method, pool to constant, methods, pool index of Object's constructor -/
abbrev Cl := String × List (Nat × Fe) × List (Nat × Nat) × List (Nat × Nat) × List (Nat × Nat) × List (Nat × Value) × List (Nat × Me) × Nat
def Me.nm (m : Me) : String := m.1
def Me.ds (m : Me) : String := m.2.1
def Me.na (m : Me) : Nat := m.2.2.1
def Me.rt (m : Me) : Nat := m.2.2.2.1
def Me.cd (m : Me) : Cd := m.2.2.2.2.1
def Me.ml (m : Me) : Nat := m.2.2.2.2.2.1
def Me.rf (m : Me) : Nat := m.2.2.2.2.2.2.1
def Me.rl (m : Me) : Nat := m.2.2.2.2.2.2.2
def Cl.nm (P : Cl) : String := P.1
def Cl.fs (P : Cl) : List (Nat × Fe) := P.2.1
def Cl.al (P : Cl) : List (Nat × Nat) := P.2.2.1
def Cl.fx (P : Cl) : List (Nat × Nat) := P.2.2.2.1
def Cl.mx (P : Cl) : List (Nat × Nat) := P.2.2.2.2.1
def Cl.kx (P : Cl) : List (Nat × Value) := P.2.2.2.2.2.1
def Cl.ms (P : Cl) : List (Nat × Me) := P.2.2.2.2.2.2.1
def Cl.oi (P : Cl) : Nat := P.2.2.2.2.2.2.2
def gI (s : St) (c j : Nat) : Int32 := s.1 c j
def gL (s : St) (c j : Nat) : Int64 := s.2 c j
def sI (s : St) (c j : Nat) (v : Int32) : St := (fun a b => if a = c ∧ b = j then v else s.1 a b, s.2)
def sL (s : St) (c j : Nat) (v : Int64) : St := (s.1, fun a b => if a = c ∧ b = j then v else s.2 a b)
def s0 : St := (fun _ _ => 0, fun _ _ => 0)
def ix (i : Int32) : Nat := i.toNatClampNeg
abbrev inb (n : Nat) (i : Int32) : Prop := 0 ≤ i.toInt ∧ i.toInt < (n : Int)
def asc {α : Type} : List (Nat × α) → Nat → Option α
  | [], _ => none
  | (a, b) :: r, k => match Nat.beq a k with
    | true => some b
    | false => asc r k
def fetch : Cd → Nat → Option (Instr × Nat)
  | [], _ => none
  | (a, b) :: r, k => match Nat.beq a k with
    | true => some b
    | false => fetch r k
def ilen : Instr → Nat
  | .iload _ => 2 | .lload _ => 2 | .aload _ => 2 | .istore _ => 2 | .lstore _ => 2 | .astore _ => 2 | .bipush _ => 2 | .ldc _ => 2 | .newarray _ => 2
  | .sipush _ => 3 | .iinc _ _ => 3 | .goto _ => 3 | .ifCond _ _ => 3 | .if_icmp _ _ => 3 | .getfield _ => 3 | .putfield _ => 3
  | .invokevirtual _ => 3 | .invokespecial _ => 3 | .invokestatic _ => 3 | .new _ => 3 | .ldc2_w _ => 3
  | _ => 1
def isSw : Instr → Bool
  | .tableswitch _ _ _ _ => true
  | _ => false
def clr (ls : Lv) : Nat → Lv
  | 0 => ls
  | j + 1 => match ls[j]? with
    | some (some (.long _)) => ls.set j none
    | some (some (.double _)) => ls.set j none
    | _ => ls
/-- a store into the local variables: a long takes two -/
def stl (ls : Lv) (i : Nat) (v : Value) : Option Lv :=
  match v with
  | .long x => if i + 1 < ls.length then some (((clr ls i).set i (some (.long x))).set (i + 1) none) else none
  | w => if i < ls.length then some ((clr ls i).set i (some w)) else none
def br (cd : ClassFile.Cond) (x y : Int32) (a b : Nat) : Nat :=
  match cd with
  | .eq => if x = y then a else b
  | .ne => if x = y then b else a
  | .lt => if x < y then a else b
  | .ge => if x < y then b else a
  | .gt => if y < x then a else b
  | .le => if y < x then b else a
def jmp (pc : Nat) (o : Int) : Nat := ((pc : Int) + o).toNat
def qstep (i : Instr) (pc : Nat) (st : List Value) : Option (Nat × List Value) :=
  match i with
  | .iconst v => some (pc + 1, .int (Int32.ofInt v) :: st)
  | .bipush v => some (pc + 2, .int (Int8.ofInt v).toInt32 :: st)
  | .sipush v => some (pc + 3, .int (Int16.ofInt v).toInt32 :: st)
  | .lconst k => some (pc + 1, .long (Int64.ofNat k) :: st)
  | .iadd => match st with | .int y :: .int x :: r => some (pc + 1, .int (x + y) :: r) | _ => none
  | .isub => match st with | .int y :: .int x :: r => some (pc + 1, .int (x - y) :: r) | _ => none
  | .imul => match st with | .int y :: .int x :: r => some (pc + 1, .int (x * y) :: r) | _ => none
  | .iand => match st with | .int y :: .int x :: r => some (pc + 1, .int (x &&& y) :: r) | _ => none
  | .ior => match st with | .int y :: .int x :: r => some (pc + 1, .int (x ||| y) :: r) | _ => none
  | .ixor => match st with | .int y :: .int x :: r => some (pc + 1, .int (x ^^^ y) :: r) | _ => none
  | .ishl => match st with | .int y :: .int x :: r => some (pc + 1, .int (x <<< (y &&& 31)) :: r) | _ => none
  | .ishr => match st with | .int y :: .int x :: r => some (pc + 1, .int (x >>> (y &&& 31)) :: r) | _ => none
  | .iushr => match st with | .int y :: .int x :: r => some (pc + 1, .int (XT.ushr x y) :: r) | _ => none
  | .idiv => match st with | .int y :: .int x :: r => if y = 0 then none else some (pc + 1, .int (x / y) :: r) | _ => none
  | .irem => match st with | .int y :: .int x :: r => if y = 0 then none else some (pc + 1, .int (x % y) :: r) | _ => none
  | .ineg => match st with | .int x :: r => some (pc + 1, .int (-x) :: r) | _ => none
  | .ladd => match st with | .long y :: .long x :: r => some (pc + 1, .long (x + y) :: r) | _ => none
  | .lsub => match st with | .long y :: .long x :: r => some (pc + 1, .long (x - y) :: r) | _ => none
  | .lmul => match st with | .long y :: .long x :: r => some (pc + 1, .long (x * y) :: r) | _ => none
  | .land => match st with | .long y :: .long x :: r => some (pc + 1, .long (x &&& y) :: r) | _ => none
  | .lor => match st with | .long y :: .long x :: r => some (pc + 1, .long (x ||| y) :: r) | _ => none
  | .lxor => match st with | .long y :: .long x :: r => some (pc + 1, .long (x ^^^ y) :: r) | _ => none
  | .lshl => match st with | .int y :: .long x :: r => some (pc + 1, .long (x <<< (y.toInt64 &&& 63)) :: r) | _ => none
  | .lshr => match st with | .int y :: .long x :: r => some (pc + 1, .long (x >>> (y.toInt64 &&& 63)) :: r) | _ => none
  | .lushr => match st with | .int y :: .long x :: r => some (pc + 1, .long (XT.ushrL x y) :: r) | _ => none
  | .ldiv => match st with | .long y :: .long x :: r => if y = 0 then none else some (pc + 1, .long (x / y) :: r) | _ => none
  | .lneg => match st with | .long x :: r => some (pc + 1, .long (-x) :: r) | _ => none
  | .lcmp => match st with | .long y :: .long x :: r => some (pc + 1, .int (XT.cmpL x y) :: r) | _ => none
  | .i2l => match st with | .int x :: r => some (pc + 1, .long x.toInt64 :: r) | _ => none
  | .l2i => match st with | .long x :: r => some (pc + 1, .int x.toInt32 :: r) | _ => none
  | .dup => match st with | .int x :: r => some (pc + 1, .int x :: .int x :: r) | .ref x :: r => some (pc + 1, .ref x :: .ref x :: r) | _ => none
  | .pop => match st with | .int _ :: r => some (pc + 1, r) | .ref _ :: r => some (pc + 1, r) | _ => none
  | .goto o => if 0 ≤ (pc : Int) + o then some (jmp pc o, st) else none
  | .ifCond cd o => match st with | .int x :: r => if 0 ≤ (pc : Int) + o then some (br cd x 0 (jmp pc o) (pc + 3), r) else none | _ => none
  | .if_icmp cd o => match st with | .int y :: .int x :: r => if 0 ≤ (pc : Int) + o then some (br cd x y (jmp pc o) (pc + 3), r) else none | _ => none
  | .tableswitch d lo hi offs => match st with
    | .int x :: r => if x.toInt < lo ∨ x.toInt > hi then (if 0 ≤ (pc : Int) + d then some (jmp pc d, r) else none)
      else (match offs[(x.toInt - lo).toNat]? with | some o => if 0 ≤ (pc : Int) + o then some (jmp pc o, r) else none | none => none)
    | _ => none
  | _ => none
def pstep (i : Instr) (pc : Nat) (ls : Lv) (st : List Value) : Option (Nat × Lv × List Value) :=
  match i with
  | .iload_n k => match ls[k.val]? with | some (some (.int v)) => some (pc + 1, ls, .int v :: st) | _ => none
  | .iload k => match ls[k]? with | some (some (.int v)) => some (pc + 2, ls, .int v :: st) | _ => none
  | .lload_n k => match ls[k.val]? with | some (some (.long v)) => some (pc + 1, ls, .long v :: st) | _ => none
  | .lload k => match ls[k]? with | some (some (.long v)) => some (pc + 2, ls, .long v :: st) | _ => none
  | .aload_n k => match ls[k.val]? with | some (some (.ref v)) => some (pc + 1, ls, .ref v :: st) | _ => none
  | .aload k => match ls[k]? with | some (some (.ref v)) => some (pc + 2, ls, .ref v :: st) | _ => none
  | .istore_n k => match st with | .int v :: r => (match stl ls k.val (.int v) with | some l => some (pc + 1, l, r) | none => none) | _ => none
  | .istore k => match st with | .int v :: r => (match stl ls k (.int v) with | some l => some (pc + 2, l, r) | none => none) | _ => none
  | .lstore_n k => match st with | .long v :: r => (match stl ls k.val (.long v) with | some l => some (pc + 1, l, r) | none => none) | _ => none
  | .lstore k => match st with | .long v :: r => (match stl ls k (.long v) with | some l => some (pc + 2, l, r) | none => none) | _ => none
  | .astore_n k => match st with | .ref v :: r => (match stl ls k.val (.ref v) with | some l => some (pc + 1, l, r) | none => none) | _ => none
  | .astore k => match st with | .ref v :: r => (match stl ls k (.ref v) with | some l => some (pc + 2, l, r) | none => none) | _ => none
  | .iinc k d => match ls[k]? with | some (some (.int v)) => (match stl ls k (.int (v + Int32.ofInt d)) with | some l => some (pc + 3, l, st) | none => none) | _ => none
  | i => match qstep i pc st with | some (pc', st') => some (pc', ls, st') | none => none
/-- how the machine's references stand in the heap -/
def va (ρ : Nat → Nat) : Value → Value
  | .ref c => .ref (ρ c)
  | v => v
def WF (L : Array Slot) : Prop :=
  (∀ (k : Nat) (v : Value), L[k]? = some (Slot.val v) → v.category = 2 → L[k + 1]? = some .second) ∧
  (∀ k : Nat, L[k + 1]? = some Slot.second → ∃ v : Value, L[k]? = some (Slot.val v) ∧ v.category = 2) ∧ L[0]? ≠ some Slot.second
def LR (ρ : Nat → Nat) (ls : Lv) (L : Array Slot) : Prop :=
  L.size = ls.length ∧ (∀ (k : Nat) (v : Value), ls[k]? = some (some v) → L[k]? = some (Slot.val (va ρ v))) ∧ WF L
end Jvm.LM

namespace Jvm.LM
open Sem ClassFile Op Lib Jvm.Stand Jvm.Free Jvm.LawKit Jvm.RoadKit
/-! the local variables -/
def upd (f : Nat → Option Slot) (i : Nat) (x : Slot) : Nat → Option Slot := fun k => if k = i then some x else f k
def WFf (f : Nat → Option Slot) : Prop :=
  (∀ k v, f k = some (.val v) → v.category = 2 → f (k + 1) = some .second) ∧
  (∀ k, f (k + 1) = some .second → ∃ v, f k = some (.val v) ∧ v.category = 2) ∧ f 0 ≠ some .second
def clearF (f : Nat → Option Slot) (i : Nat) : Nat → Option Slot :=
  match f i with
  | some .second => upd (upd f (i - 1) .unset) i .unset
  | some (.val old) => if old.category = 2 then upd (upd f (i + 1) .unset) i .unset else upd f i .unset
  | _ => f
theorem clearF_cases (f : Nat → Option Slot) (i : Nat) : (f i = some .second ∧ clearF f i = upd (upd f (i - 1) .unset) i .unset) ∨ (∃ old, f i = some (.val old) ∧ old.category = 2 ∧ clearF f i = upd (upd f (i + 1) .unset) i .unset) ∨
    (∃ old, f i = some (.val old) ∧ old.category ≠ 2 ∧ clearF f i = upd f i .unset) ∨ ((f i = some .unset ∨ f i = none) ∧ clearF f i = f) := by
  cases h : f i with
  | none => exact Or.inr (Or.inr (Or.inr ⟨Or.inr rfl, by simp only [clearF, h]⟩))
  | some x =>
    cases x with
    | unset => exact Or.inr (Or.inr (Or.inr ⟨Or.inl rfl, by simp only [clearF, h]⟩))
    | second => exact Or.inl ⟨rfl, by simp only [clearF, h]⟩
    | val old =>
      by_cases hc : old.category = 2
      · exact Or.inr (Or.inl ⟨old, rfl, hc, by simp only [clearF, h]; rw [if_pos hc]⟩)
      · exact Or.inr (Or.inr (Or.inl ⟨old, rfl, hc, by simp only [clearF, h]; rw [if_neg hc]⟩))
theorem wff_clear {f : Nat → Option Slot} (h : WFf f) (i : Nat) : WFf (clearF f i) := by
  obtain ⟨h1, h2, h3⟩ := h
  unfold clearF
  split
  · rename_i e
    cases i with
    | zero => exact absurd e h3
    | succ j =>
      refine ⟨fun k v hk hc => ?_, fun k hk => ?_, ?_⟩
      · simp only [upd, Nat.add_sub_cancel] at hk ⊢
        have := h1 k v
        by_cases a : k = j + 1
        · simp [a] at hk
        · by_cases b : k = j
          · simp [b] at hk
          · have c : k + 1 ≠ j + 1 := by omega
            simp only [a, b, if_false] at hk
            by_cases d : k + 1 = j
            · have := h1 k v hk hc
              obtain ⟨w, hw, hw2⟩ := h2 j e
              rw [d, hw] at this; cases this
            · simp [c, d, b, h1 k v hk hc]
      · simp only [upd, Nat.add_sub_cancel] at hk ⊢
        by_cases a : k = j
        · simp [a] at hk
        · by_cases b : k + 1 = j
          · simp [b] at hk
          · simp only [show ¬ (k + 1 = j + 1) by omega, b, if_false] at hk
            obtain ⟨w, hw, hw2⟩ := h2 k hk
            by_cases d : k = j + 1
            · rw [d, e] at hw; cases hw
            · exact ⟨w, by simp [d, a, hw], hw2⟩
      · simp only [upd, Nat.add_sub_cancel]
        by_cases b : 0 = j
        · simp [← b]
        · simp [b, h3]
  · rename_i old e
    split
    · rename_i hc2
      have e2 := h1 i old e hc2
      refine ⟨fun k v hk hc => ?_, fun k hk => ?_, ?_⟩
      · simp only [upd] at hk ⊢
        by_cases a : k = i
        · simp [a] at hk
        · by_cases b : k = i + 1
          · simp [b] at hk
          · simp only [a, b, if_false] at hk
            have q := h1 k v hk hc
            by_cases d : k + 1 = i
            · rw [d, e] at q; cases q
            · simp [d, a, show ¬ (k + 1 = i + 1) by omega, q]
      · simp only [upd] at hk ⊢
        by_cases a : k + 1 = i
        · simp [a] at hk
        · by_cases b : k = i
          · simp [b] at hk
          · simp only [a, show ¬ (k + 1 = i + 1) by omega, if_false] at hk
            obtain ⟨w, hw, hw2⟩ := h2 k hk
            by_cases d : k = i + 1
            · rw [d, e2] at hw; cases hw
            · exact ⟨w, by simp [d, b, hw], hw2⟩
      · simp only [upd]
        by_cases b : 0 = i
        · simp [← b]
        · simp [b, h3]
    · rename_i hc2
      refine ⟨fun k v hk hc => ?_, fun k hk => ?_, ?_⟩
      · simp only [upd] at hk ⊢
        by_cases a : k = i
        · simp [a] at hk
        · simp only [a, if_false] at hk
          have q := h1 k v hk hc
          by_cases d : k + 1 = i
          · rw [d, e] at q; cases q
          · simp [d, q]
      · simp only [upd] at hk ⊢
        by_cases a : k + 1 = i
        · simp [a] at hk
        · simp only [a, if_false] at hk
          obtain ⟨w, hw, hw2⟩ := h2 k hk
          by_cases d : k = i
          · rw [d, e] at hw; cases hw; exact absurd hw2 hc2
          · exact ⟨w, by simp [d, hw], hw2⟩
      · simp only [upd]
        by_cases b : 0 = i
        · simp [← b]
        · simp [b, h3]
  · exact ⟨h1, h2, h3⟩
theorem wff_one {f : Nat → Option Slot} (h : WFf f) {i : Nat} (e : f i = some .unset) {v : Value} (hv : v.category ≠ 2) : WFf (upd f i (.val v)) := by
  obtain ⟨h1, h2, h3⟩ := h
  refine ⟨fun k w hk hc => ?_, fun k hk => ?_, ?_⟩
  · simp only [upd] at hk ⊢
    by_cases a : k = i
    · simp only [a, if_true, Option.some.injEq, Slot.val.injEq] at hk; subst hk; exact absurd hc hv
    · simp only [a, if_false] at hk
      have q := h1 k w hk hc
      by_cases d : k + 1 = i
      · rw [d, e] at q; cases q
      · simp [d, q]
  · simp only [upd] at hk ⊢
    by_cases a : k + 1 = i
    · simp [a] at hk
    · simp only [a, if_false] at hk
      obtain ⟨w, hw, hw2⟩ := h2 k hk
      by_cases d : k = i
      · rw [d, e] at hw; cases hw
      · exact ⟨w, by simp [d, hw], hw2⟩
  · simp only [upd]
    by_cases b : 0 = i
    · simp [← b]
    · simp [b, h3]
theorem wff_two {f : Nat → Option Slot} (h : WFf f) {i : Nat} (e : f i = some .unset) (e' : f (i + 1) = some .unset) {v : Value} (hv : v.category = 2) : WFf (upd (upd f i (.val v)) (i + 1) .second) := by
  obtain ⟨h1, h2, h3⟩ := h
  refine ⟨fun k w hk hc => ?_, fun k hk => ?_, ?_⟩
  · simp only [upd] at hk ⊢
    by_cases a : k = i + 1
    · simp [a] at hk
    · by_cases b : k = i
      · simp [b]
      · simp only [a, b, if_false] at hk
        have q := h1 k w hk hc
        by_cases d : k + 1 = i
        · rw [d, e] at q; cases q
        · simp [d, show ¬ (k + 1 = i + 1) by omega, q]
  · simp only [upd] at hk ⊢
    by_cases a : k = i
    · exact ⟨v, by simp [a], hv⟩
    · by_cases b : k + 1 = i
      · simp [b] at hk
      · simp only [show ¬ (k + 1 = i + 1) by omega, b, if_false] at hk
        obtain ⟨w, hw, hw2⟩ := h2 k hk
        by_cases d : k = i + 1
        · rw [d, e'] at hw; cases hw
        · exact ⟨w, by simp [d, a, hw], hw2⟩
  · simp only [upd]
    by_cases b : 0 = i
    · simp [← b]
    · simp [b, h3]
theorem gset (L : Array Slot) {i : Nat} (hi : i < L.size) (x : Slot) : (fun k => (L.setIfInBounds i x)[k]?) = upd (fun k => L[k]?) i x := by
  funext k
  simp only [upd, Array.getElem?_setIfInBounds]
  by_cases a : i = k
  · subst a; simp [hi]
  · simp [a, show ¬ k = i from fun h => a h.symm]
theorem sl_eq (L : Array Slot) (i : Nat) (v : Value) : storeLocals L i v = (L[i]?).bind (fun x => match x with
    | .second => (setAt L (i - 1) .unset).bind (fun l => storeSelf l i v)
    | .val old => if old.category = 2 then (setAt L (i + 1) .unset).bind (fun l => storeSelf l i v) else storeSelf L i v
    | .unset => storeSelf L i v) := rfl
theorem ss_eq (L : Array Slot) (i : Nat) (v : Value) : storeSelf L i v = (setAt L i (.val v)).bind (fun l => if v.category = 2 then (l[i + 1]?).bind (fun x => match x with
    | .val old => if old.category = 2 then (setAt l (i + 2) .unset).bind (fun l' => setAt l' (i + 1) .second) else setAt l (i + 1) .second
    | _ => setAt l (i + 1) .second) else some l) := rfl
theorem sa_eq {L : Array Slot} {i : Nat} (hi : i < L.size) (x : Slot) : setAt L i x = some (L.setIfInBounds i x) := if_pos hi
theorem upd_upd (f : Nat → Option Slot) (i : Nat) (x y : Slot) : upd (upd f i x) i y = upd f i y := by
  funext k; simp only [upd]; split <;> rfl
/-- what a store clears first -/
theorem clear_ok {L : Array Slot} (hW : WF L) {i : Nat} (hi : i < L.size) (v : Value) : ∃ L1, storeLocals L i v = storeSelf L1 i v ∧ L1.size = L.size ∧ upd (fun k => L1[k]?) i .unset = upd (clearF (fun k => L[k]?) i) i .unset := by
  have hh : WFf (fun k => L[k]?) := hW
  obtain ⟨sl, hsl⟩ : ∃ sl, L[i]? = some sl := ⟨L[i], Array.getElem?_eq_getElem hi⟩
  rw [sl_eq, hsl, Option.bind_some]
  cases sl with
  | unset => exact ⟨L, rfl, rfl, by simp only [clearF, hsl]⟩
  | second =>
    refine ⟨L.setIfInBounds (i - 1) .unset, ?_, by simp, ?_⟩
    · show (setAt L (i - 1) .unset).bind _ = _
      rw [sa_eq (by omega)]; rfl
    · rw [gset _ (by omega)]; simp only [clearF, hsl, upd_upd]
  | val old =>
    by_cases hc : old.category = 2
    · have h2 := hh.1 i old hsl hc
      have hlt : i + 1 < L.size := (Array.getElem?_eq_some_iff.mp h2).1
      refine ⟨L.setIfInBounds (i + 1) .unset, ?_, by simp, ?_⟩
      · show (if old.category = 2 then _ else _) = _
        rw [if_pos hc, sa_eq hlt]; rfl
      · rw [gset _ hlt]; simp only [clearF, hsl, hc, if_true, upd_upd]
    · refine ⟨L, ?_, rfl, ?_⟩
      · show (if old.category = 2 then _ else _) = _
        rw [if_neg hc]
      · simp only [clearF, hsl, hc, if_false, upd_upd]
theorem clearF_at {f : Nat → Option Slot} {i : Nat} (hi : f i ≠ none) : clearF f i i = some .unset := by
  rcases clearF_cases f i with ⟨h1, h2⟩ | ⟨old, h1, h3, h2⟩ | ⟨old, h1, h3, h2⟩ | ⟨h1 | h1, h2⟩
  · rw [h2]; simp [upd]
  · rw [h2]; simp [upd]
  · rw [h2]; simp [upd]
  · rw [h2]; exact h1
  · exact absurd h1 hi
theorem clearF_self {f : Nat → Option Slot} {i : Nat} (hi : f i ≠ none) : upd (clearF f i) i .unset = clearF f i := by
  funext k; simp only [upd]; split
  · rename_i e; rw [e]; exact (clearF_at hi).symm
  · rfl
/-- the other variables: kept, or they held (a part of) a long -/
theorem clearF_keep {f : Nat → Option Slot} (h : WFf f) {i k : Nat} {w : Value} (hk : k ≠ i) (e : f k = some (.val w)) (hw : k + 1 = i → w.category ≠ 2) : clearF f i k = some (.val w) := by
  rcases clearF_cases f i with ⟨e2, h2⟩ | ⟨old, e2, hc, h2⟩ | ⟨old, e2, hc, h2⟩ | ⟨-, h2⟩
  · rw [h2]
    cases i with
    | zero => exact absurd e2 h.2.2
    | succ j =>
      simp only [upd, Nat.add_sub_cancel, hk, if_false]
      split
      · rename_i hj; subst hj
        obtain ⟨v, hv, hv2⟩ := h.2.1 k e2
        rw [e] at hv; cases hv; exact absurd hv2 (hw rfl)
      · exact e
  · rw [h2]
    have q := h.1 i old e2 hc
    simp only [upd, hk, if_false]
    split
    · rename_i hj; rw [hj, q] at e; cases e
    · exact e
  · rw [h2]; simp [upd, hk, e]
  · rw [h2]; exact e
theorem store_one {L : Array Slot} (hW : WF L) {i : Nat} (hi : i < L.size) {v : Value} (hv : v.category ≠ 2) :
    ∃ L', storeLocals L i v = some L' ∧ L'.size = L.size ∧ WF L' ∧ (fun k => L'[k]?) = upd (clearF (fun k => L[k]?) i) i (.val v) := by
  obtain ⟨L1, h1, h2, h3⟩ := clear_ok hW hi v
  have hne : (fun k => L[k]?) i ≠ none := by simp; omega
  have hi1 : i < L1.size := by omega
  refine ⟨L1.setIfInBounds i (.val v), ?_, by simp [h2], ?_, ?_⟩
  · rw [h1, ss_eq, sa_eq hi1, Option.bind_some, if_neg hv]
  · have q : (fun k => (L1.setIfInBounds i (.val v))[k]?) = upd (clearF (fun k => L[k]?) i) i (.val v) := by
      rw [gset _ hi1, ← upd_upd _ i .unset, h3, upd_upd]
    have w : WFf (fun k => (L1.setIfInBounds i (.val v))[k]?) := by
      rw [q]; exact wff_one (wff_clear hW i) (clearF_at hne) hv
    exact w
  · rw [gset _ hi1, ← upd_upd _ i .unset, h3, upd_upd]
theorem store_two {L : Array Slot} (hW : WF L) {i : Nat} (hi : i + 1 < L.size) {v : Value} (hv : v.category = 2) :
    ∃ L', storeLocals L i v = some L' ∧ L'.size = L.size ∧ WF L' ∧ (fun k => L'[k]?) = upd (upd (clearF (clearF (fun k => L[k]?) i) (i + 1)) i (.val v)) (i + 1) .second := by
  obtain ⟨L1, h1, h2, h3⟩ := clear_ok hW (show i < L.size by omega) v
  have hne : (fun k => L[k]?) i ≠ none := by simp; omega
  have hi1 : i < L1.size := by omega
  have hi2 : i + 1 < L1.size := by omega
  rw [clearF_self hne] at h3
  have hWc := wff_clear (f := fun k => L[k]?) hW i
  generalize hF : clearF (fun k => L[k]?) i = F at *
  have hFi : F i = some .unset := by rw [← hF]; exact clearF_at hne
  have g1 : (fun k => (L1.setIfInBounds i (.val v))[k]?) = upd F i (.val v) := by rw [gset _ hi1, ← upd_upd _ i .unset, h3]
  have g2 : (L1.setIfInBounds i (.val v))[i + 1]? = F (i + 1) := by
    have := congrFun g1 (i + 1); simpa [upd] using this
  have hFi1 : F (i + 1) ≠ none := by
    have : (L1.setIfInBounds i (.val v))[i + 1]? ≠ none := by simp; omega
    rw [g2] at this; exact this
  have hns : F (i + 1) ≠ some .second := fun q => by
    obtain ⟨w, hw, -⟩ := hWc.2.1 i q
    rw [hFi] at hw; cases hw
  have key : ∀ G : Nat → Option Slot, WFf G → G i = some .unset → G (i + 1) = some .unset → G = clearF F (i + 1) → WFf (upd (upd (clearF F (i + 1)) i (.val v)) (i + 1) .second) := fun G hG a b e => by rw [← e]; exact wff_two hG a b hv
  have hcl := wff_clear hWc (i + 1)
  have hcli : clearF F (i + 1) i = some .unset := by
    rcases clearF_cases F (i + 1) with ⟨q, h2⟩ | ⟨old, q, hc, h2⟩ | ⟨old, q, hc, h2⟩ | ⟨-, h2⟩
    · exact absurd q hns
    · rw [h2]; simp [upd, hFi]
    · rw [h2]; simp [upd, hFi]
    · rw [h2]; exact hFi
  have hWF := wff_two hcl hcli (clearF_at hFi1) hv
  rw [h1, ss_eq, sa_eq hi1, Option.bind_some, if_pos hv, g2]
  cases hx : F (i + 1) with
  | none => exact absurd hx hFi1
  | some sl =>
    cases sl with
    | second => exact absurd hx hns
    | unset =>
      have e1 : clearF F (i + 1) = F := by simp only [clearF, hx]
      have e3 : (fun k => ((L1.setIfInBounds i (.val v)).setIfInBounds (i + 1) .second)[k]?) = upd (upd (clearF F (i + 1)) i (.val v)) (i + 1) .second := by
        rw [gset _ (by simpa using hi2), g1, e1]
      refine ⟨(L1.setIfInBounds i (.val v)).setIfInBounds (i + 1) .second, ?_, by simp [h2], ?_, e3⟩
      · show setAt _ (i + 1) .second = _
        rw [sa_eq (by simpa using hi2)]
      · have w : WFf (fun k => ((L1.setIfInBounds i (.val v)).setIfInBounds (i + 1) .second)[k]?) := by rw [e3]; exact hWF
        exact w
    | val old =>
      by_cases hc : old.category = 2
      · have q := hWc.1 _ _ hx hc
        have hi3 : i + 2 < L1.size := by
          have q2 : (L1.setIfInBounds i (.val v))[i + 2]? = some .second := by
            have := congrFun g1 (i + 2); simpa [upd, q] using this
          have := (Array.getElem?_eq_some_iff.mp q2).1
          simpa using this
        have e1 : clearF F (i + 1) = upd (upd F (i + 2) .unset) (i + 1) .unset := by simp only [clearF, hx, hc, if_true]
        have e3 : (fun k => (((L1.setIfInBounds i (.val v)).setIfInBounds (i + 2) .unset).setIfInBounds (i + 1) .second)[k]?) = upd (upd (clearF F (i + 1)) i (.val v)) (i + 1) .second := by
          rw [gset _ (by simpa using hi2), gset _ (by simpa using hi3), g1, e1]
          funext k; simp only [upd]
          by_cases a : k = i + 1
          · simp [a]
          · by_cases b : k = i
            · simp [b]
            · simp [a, b]
        refine ⟨((L1.setIfInBounds i (.val v)).setIfInBounds (i + 2) .unset).setIfInBounds (i + 1) .second, ?_, by simp [h2], ?_, e3⟩
        · show (if old.category = 2 then _ else _) = _
          rw [if_pos hc, sa_eq (by simpa using hi3), Option.bind_some, sa_eq (by simpa using hi2)]
        · have w : WFf (fun k => (((L1.setIfInBounds i (.val v)).setIfInBounds (i + 2) .unset).setIfInBounds (i + 1) .second)[k]?) := by rw [e3]; exact hWF
          exact w
      · have e1 : clearF F (i + 1) = upd F (i + 1) .unset := by simp only [clearF, hx, hc, if_false]
        have e3 : (fun k => ((L1.setIfInBounds i (.val v)).setIfInBounds (i + 1) .second)[k]?) = upd (upd (clearF F (i + 1)) i (.val v)) (i + 1) .second := by
          rw [gset _ (by simpa using hi2), g1, e1]
          funext k; simp only [upd]
          by_cases a : k = i + 1
          · simp [a]
          · by_cases b : k = i
            · simp [b]
            · simp [a, b]
        refine ⟨(L1.setIfInBounds i (.val v)).setIfInBounds (i + 1) .second, ?_, by simp [h2], ?_, e3⟩
        · show (if old.category = 2 then _ else _) = _
          rw [if_neg hc, sa_eq (by simpa using hi2)]
        · have w : WFf (fun k => ((L1.setIfInBounds i (.val v)).setIfInBounds (i + 1) .second)[k]?) := by rw [e3]; exact hWF
          exact w
theorem cat_va (ρ : Nat → Nat) (v : Value) : (va ρ v).category = v.category := by cases v <;> rfl
theorem clr_len (ls : Lv) (i : Nat) : (clr ls i).length = ls.length := by
  cases i with
  | zero => rfl
  | succ j => simp only [clr]; split <;> simp
theorem clr_get {ls : Lv} {i k : Nat} {v : Value} (h : (clr ls i)[k]? = some (some v)) : ls[k]? = some (some v) ∧ (k + 1 = i → v.category ≠ 2) := by
  cases i with
  | zero => exact ⟨h, fun q => by omega⟩
  | succ j =>
    simp only [clr] at h
    split at h
    · rename_i x e
      rw [List.getElem?_set] at h
      split at h
      · rename_i hj; subst hj; split at h <;> simp at h
      · rename_i hj; exact ⟨h, fun q => by omega⟩
    · rename_i x e
      rw [List.getElem?_set] at h
      split at h
      · rename_i hj; subst hj; split at h <;> simp at h
      · rename_i hj; exact ⟨h, fun q => by omega⟩
    · rename_i e1 e2
      refine ⟨h, fun q hc => ?_⟩
      have hk : k = j := by omega
      subst hk
      cases v <;> first | exact e1 _ h | exact e2 _ h | (exact Nat.noConfusion (Nat.succ.inj hc))
theorem store_ok {ρ : Nat → Nat} {ls ls' : Lv} {L : Array Slot} {i : Nat} {v : Value} (hL : LR ρ ls L) (hd : ∀ x, v ≠ .double x) (h : stl ls i v = some ls') : ∃ L', storeLocals L i (va ρ v) = some L' ∧ LR ρ ls' L' ∧ L'.size = L.size := by
  obtain ⟨hz, hr, hW⟩ := hL
  have hWf : WFf (fun k => L[k]?) := hW
  by_cases hc : v.category = 2
  · obtain ⟨x, rfl⟩ : ∃ x, v = .long x := by cases v <;> simp [Value.category] at hc <;> first | exact ⟨_, rfl⟩ | exact absurd rfl (hd _)
    simp only [stl] at h
    split at h
    · rename_i hi
      cases h
      obtain ⟨L', a1, a2, a3, a4⟩ := store_two hW (show i + 1 < L.size by omega) (v := va ρ (.long x)) rfl
      refine ⟨L', a1, ⟨by simp [a2, hz, clr_len], fun k w hk => ?_, a3⟩, a2⟩
      have q : L'[k]? = _ := congrFun a4 k
      rw [q]
      rw [List.getElem?_set] at hk
      split at hk
      · simp at hk
      · rename_i hk1
        rw [List.getElem?_set] at hk
        split at hk
        · rename_i hk2; subst hk2
          simp only [clr_len] at hk
          split at hk
          · cases hk; simp [upd]
          · simp at hk
        · rename_i hk2
          obtain ⟨b1, b2⟩ := clr_get hk
          have b3 := hr _ _ b1
          have b4 : clearF (fun k => L[k]?) i k = some (.val (va ρ w)) := clearF_keep hWf (fun q => hk2 q.symm) b3 (fun q => by rw [cat_va]; exact b2 q)
          have b5 := clearF_keep (wff_clear hWf i) (i := i + 1) (fun q => hk1 q.symm) b4 (fun q => absurd (Nat.succ.inj q) fun z => hk2 z.symm)
          simp only [upd, show ¬ k = i + 1 from fun q => hk1 q.symm, show ¬ k = i from fun q => hk2 q.symm, if_false]
          exact b5
    · cases h
  · have hs : stl ls i v = if i < ls.length then some ((clr ls i).set i (some v)) else none := by cases v <;> first | rfl | exact absurd rfl hc
    rw [hs] at h
    split at h
    · rename_i hi
      cases h
      obtain ⟨L', a1, a2, a3, a4⟩ := store_one hW (show i < L.size by omega) (v := va ρ v) (by rw [cat_va]; exact hc)
      refine ⟨L', a1, ⟨by simp [a2, hz, clr_len], fun k w hk => ?_, a3⟩, a2⟩
      have q : L'[k]? = _ := congrFun a4 k
      rw [q]
      rw [List.getElem?_set] at hk
      split at hk
      · rename_i hk2; subst hk2
        simp only [clr_len] at hk
        split at hk
        · cases hk; simp [upd]
        · omega
      · rename_i hk2
        obtain ⟨b1, b2⟩ := clr_get hk
        have b3 := hr _ _ b1
        have b4 : clearF (fun k => L[k]?) i k = some (.val (va ρ w)) := clearF_keep hWf (fun q => hk2 q.symm) b3 (fun q => by rw [cat_va]; exact b2 q)
        simp only [upd, show ¬ k = i from fun q => hk2 q.symm, if_false]
        exact b4
    · cases h
end Jvm.LM

namespace Jvm.LM
open Sem ClassFile Op Lib Jvm.Stand Jvm.Free Jvm.LawKit Jvm.RoadKit
section Pure
variable {p : Program} {l : Launch} {e : Env} {R : Room} {s : State} {m : MethodId} {args : Array Value} {below : List Frame} {meth : Method} {c : Code} {T : State} {locs : List Loc} {cells slots : Nat}
theorem br_eq (cd : ClassFile.Cond) (x y : Int32) (a b : Nat) : br cd x y a b = if if_icmp.holds cd x y = true then a else b := by
  cases cd <;> simp only [br]
  · by_cases h : x = y <;> simp [h, XT.ii_eq_t, XT.ii_eq_f]
  · by_cases h : x = y
    · rw [if_pos h, XT.ii_ne_f h]; rfl
    · rw [if_neg h, XT.ii_ne_t h]; rfl
  · by_cases h : x < y
    · rw [if_pos h, XT.ii_lt_t h]; rfl
    · rw [if_neg h, XT.ii_lt_f h]; rfl
  · by_cases h : x < y
    · rw [if_pos h, XT.ii_ge_f h]; rfl
    · rw [if_neg h, XT.ii_ge_t h]; rfl
  · by_cases h : y < x
    · rw [if_pos h, XT.ii_gt_t h]; rfl
    · rw [if_neg h, XT.ii_gt_f h]; rfl
  · by_cases h : y < x
    · rw [if_pos h, XT.ii_le_f h]; rfl
    · rw [if_neg h, XT.ii_le_t h]; rfl
theorem qstep_sound (X : Stand p l e R s m args below meth c T locs cells slots) (hx : p.tables.exec = Jvm.exec) {ρ : Nat → Nat} {i : Instr} {n pc pc' : Nat} {st st' : List Value}
    (h : qstep i pc st = some (pc', st')) (hd : decode c.code pc = .ok (i, n)) (hn : isSw i = true ∨ n = ilen i) {L : Array Slot} :
    ∀ target, Steps p.tables e below (T.setTop (mkF m pc' L (st'.map (va ρ)))) target → Steps p.tables e below (T.setTop (mkF m pc L (st.map (va ρ)))) target := by
  by_cases hsw : isSw i = true
  · cases i <;> first | exact absurd hsw Bool.false_ne_true | skip
    rename_i d lo hi offs
    simp only [qstep] at h
    split at h
    · rename_i x r
      split at h
      · rename_i e1
        split at h
        · rename_i e2; cases h; exact fun t q => X.tableswitchOut hx (g := mkF m pc L (.int x :: List.map (va ρ) _)) rfl rfl hd e1 e2 t q
        · cases h
      · rename_i e1
        split at h
        · rename_i o e2
          split at h
          · rename_i e3; cases h; exact fun t q => X.tableswitchIn hx (g := mkF m pc L (.int x :: List.map (va ρ) _)) rfl rfl hd e1 e2 e3 t q
          · cases h
        · cases h
    · cases h
  obtain rfl := hn.resolve_left hsw
  unfold qstep at h
  split at h
  -- constants
  · cases h; exact fun t q => XS.iconst X.here hx rfl hd q
  · cases h; exact fun t q => XS.bipush X.here hx rfl hd q
  · cases h; exact fun t q => XS.sipush X.here hx rfl hd q
  · cases h; exact fun t q => XT.lconst X.here hx rfl hd q
  -- ints
  · split at h
    · cases h; exact fun t q => XS.iadd X.here hx rfl hd rfl q
    · cases h
  · split at h
    · cases h; exact fun t q => XS.isub X.here hx rfl hd rfl q
    · cases h
  · split at h
    · cases h; exact fun t q => XS.imul X.here hx rfl hd rfl q
    · cases h
  · split at h
    · cases h; exact fun t q => XS.iand X.here hx rfl hd rfl q
    · cases h
  · split at h
    · cases h; exact fun t q => XT.ior X.here hx rfl hd rfl q
    · cases h
  · split at h
    · cases h; exact fun t q => XT.ixor X.here hx rfl hd rfl q
    · cases h
  · split at h
    · cases h; exact fun t q => XT.ishl X.here hx rfl hd rfl q
    · cases h
  · split at h
    · cases h; exact fun t q => XT.ishr X.here hx rfl hd rfl q
    · cases h
  · split at h
    · cases h; exact fun t q => XT.iushr X.here hx rfl hd rfl q
    · cases h
  · split at h
    · split at h
      · cases h
      · rename_i e1; cases h; exact fun t q => XS.idiv X.here hx rfl hd rfl e1 q
    · cases h
  · split at h
    · split at h
      · cases h
      · rename_i e1; cases h; exact fun t q => iremM X hx rfl hd rfl e1 q
    · cases h
  · split at h
    · cases h; exact fun t q => XS.ineg X.here hx rfl hd rfl q
    · cases h
  -- longs
  · split at h
    · cases h; exact fun t q => XT.ladd X.here hx rfl hd rfl q
    · cases h
  · split at h
    · cases h; exact fun t q => XT.lsub X.here hx rfl hd rfl q
    · cases h
  · split at h
    · cases h; exact fun t q => XT.lmul X.here hx rfl hd rfl q
    · cases h
  · split at h
    · cases h; exact fun t q => XT.land X.here hx rfl hd rfl q
    · cases h
  · split at h
    · cases h; exact fun t q => XT.lor X.here hx rfl hd rfl q
    · cases h
  · split at h
    · cases h; exact fun t q => XT.lxor X.here hx rfl hd rfl q
    · cases h
  · split at h
    · cases h; exact fun t q => XT.lshl X.here hx rfl hd rfl q
    · cases h
  · split at h
    · cases h; exact fun t q => XT.lshr X.here hx rfl hd rfl q
    · cases h
  · split at h
    · cases h; exact fun t q => XT.lushr X.here hx rfl hd rfl q
    · cases h
  · split at h
    · split at h
      · cases h
      · rename_i e1; cases h; exact fun t q => XT.ldiv X.here hx rfl hd rfl e1 q
    · cases h
  · split at h
    · cases h; exact fun t q => XT.lneg X.here hx rfl hd rfl q
    · cases h
  · split at h
    · cases h; exact fun t q => XT.lcmp X.here hx rfl hd rfl q
    · cases h
  · split at h
    · cases h; exact fun t q => XT.i2l X.here hx rfl hd rfl q
    · cases h
  · split at h
    · cases h; exact fun t q => XT.l2i X.here hx rfl hd rfl q
    · cases h
  -- dup, pop
  · split at h
    · cases h; exact fun t q => XS.dup X.here hx rfl hd rfl rfl q
    · cases h; exact fun t q => XS.dup X.here hx rfl hd rfl rfl q
    · cases h
  · split at h
    · cases h; exact fun t q => XT.pop X.here hx rfl hd rfl rfl q
    · cases h; exact fun t q => XT.pop X.here hx rfl hd rfl rfl q
    · cases h
  -- jumps
  · split at h
    · rename_i e1; cases h; exact fun t q => XS.goto X.here hx rfl rfl hd e1 rfl q
    · cases h
  · split at h
    · split at h
      · rename_i e1; cases h
        intro t q
        rw [br_eq] at q
        split at q
        · rename_i e2; exact XS.ifYes X.here hx rfl rfl hd rfl (by rw [if0]; exact e2) e1 rfl q
        · rename_i e2; exact XS.ifNo X.here hx rfl hd rfl (by rw [if0]; simpa using e2) q
      · cases h
    · cases h
  · split at h
    · split at h
      · rename_i e1; cases h
        intro t q
        rw [br_eq] at q
        split at q
        · rename_i e2; exact XS.icmpYes X.here hx rfl rfl hd rfl e2 e1 rfl q
        · rename_i e2; exact XS.icmpNo X.here hx rfl hd rfl (by simpa using e2) q
      · cases h
    · cases h
  · exact absurd rfl hsw
  · cases h
theorem pstep_sound (X : Stand p l e R s m args below meth c T locs cells slots) (hx : p.tables.exec = Jvm.exec) {ρ : Nat → Nat} {i : Instr} {n pc pc' : Nat} {ls ls' : Lv} {st st' : List Value}
    (h : pstep i pc ls st = some (pc', ls', st')) (hd : decode c.code pc = .ok (i, n)) (hn : isSw i = true ∨ n = ilen i) {L : Array Slot} (hL : LR ρ ls L) :
    ∃ L', LR ρ ls' L' ∧ L'.size = L.size ∧ ∀ target, Steps p.tables e below (T.setTop (mkF m pc' L' (st'.map (va ρ)))) target → Steps p.tables e below (T.setTop (mkF m pc L (st.map (va ρ)))) target := by
  by_cases hsw : isSw i = true
  · cases i <;> first | exact absurd hsw Bool.false_ne_true | skip
    simp only [pstep] at h
    split at h
    · rename_i e1; cases h; exact ⟨L, hL, rfl, qstep_sound X hx e1 hd hn⟩
    · cases h
  obtain rfl := hn.resolve_left hsw
  unfold pstep at h
  split at h
  -- loads
  · split at h
    · rename_i e1; cases h; exact ⟨L, hL, rfl, fun t q => XS.iloadN X.here hx rfl hd (hL.2.1 _ _ e1) q⟩
    · cases h
  · split at h
    · rename_i e1; cases h; exact ⟨L, hL, rfl, fun t q => XS.iload X.here hx rfl hd (hL.2.1 _ _ e1) q⟩
    · cases h
  · split at h
    · rename_i e1; cases h; exact ⟨L, hL, rfl, fun t q => XT.lloadN X.here hx rfl hd (hL.2.1 _ _ e1) q⟩
    · cases h
  · split at h
    · rename_i e1; cases h; exact ⟨L, hL, rfl, fun t q => XT.lload X.here hx rfl hd (hL.2.1 _ _ e1) q⟩
    · cases h
  · split at h
    · rename_i e1; cases h; exact ⟨L, hL, rfl, fun t q => XS.aloadN X.here hx rfl hd (hL.2.1 _ _ e1) rfl q⟩
    · cases h
  · split at h
    · rename_i e1; cases h; exact ⟨L, hL, rfl, fun t q => XS.aload X.here hx rfl hd (hL.2.1 _ _ e1) rfl q⟩
    · cases h
  -- stores
  · split at h
    · split at h
      · rename_i e1; cases h
        obtain ⟨L', a1, a2, a3⟩ := store_ok hL (fun x => by simp) e1
        exact ⟨L', a2, a3, fun t q => XS.istoreN X.here hx rfl hd rfl a1 q⟩
      · cases h
    · cases h
  · split at h
    · split at h
      · rename_i e1; cases h
        obtain ⟨L', a1, a2, a3⟩ := store_ok hL (fun x => by simp) e1
        exact ⟨L', a2, a3, fun t q => XS.istore X.here hx rfl hd rfl a1 q⟩
      · cases h
    · cases h
  · split at h
    · split at h
      · rename_i e1; cases h
        obtain ⟨L', a1, a2, a3⟩ := store_ok hL (fun x => by simp) e1
        exact ⟨L', a2, a3, fun t q => XT.lstoreN X.here hx rfl hd rfl a1 q⟩
      · cases h
    · cases h
  · split at h
    · split at h
      · rename_i e1; cases h
        obtain ⟨L', a1, a2, a3⟩ := store_ok hL (fun x => by simp) e1
        exact ⟨L', a2, a3, fun t q => XT.lstore X.here hx rfl hd rfl a1 q⟩
      · cases h
    · cases h
  · split at h
    · split at h
      · rename_i e1; cases h
        obtain ⟨L', a1, a2, a3⟩ := store_ok hL (fun x => by simp) e1
        exact ⟨L', a2, a3, fun t q => XS.astoreN X.here hx rfl hd rfl rfl a1 q⟩
      · cases h
    · cases h
  · split at h
    · split at h
      · rename_i e1; cases h
        obtain ⟨L', a1, a2, a3⟩ := store_ok hL (fun x => by simp) e1
        exact ⟨L', a2, a3, fun t q => XS.astore X.here hx rfl hd rfl rfl a1 q⟩
      · cases h
    · cases h
  · split at h
    · rename_i e0
      split at h
      · rename_i e1; cases h
        obtain ⟨L', a1, a2, a3⟩ := store_ok hL (fun x => by simp) e1
        exact ⟨L', a2, a3, fun t q => XS.iinc X.here hx rfl hd (hL.2.1 _ _ e0) a1 q⟩
      · cases h
    · cases h
  · rename_i hq
    split at h
    · rename_i e1; cases h; exact ⟨L, hL, rfl, qstep_sound X hx e1 hd hn⟩
    · cases h
end Pure
/-! the class's own machine -/
def nd : List Value → Bool
  | [] => true
  | .double _ :: _ => false
  | _ :: r => nd r
theorem nd_spec {as : List Value} (h : nd as = true) : ∀ v ∈ as, ∀ x, v ≠ .double x := by
  induction as with
  | nil => intro v hv; cases hv
  | cons w r ih =>
    intro v hv x e
    rcases List.mem_cons.mp hv with q | q
    · subst q; subst e; cases h
    · refine ih ?_ v q x e
      cases w <;> first | exact h | cases h
def layA : List Value → Lv
  | [] => []
  | .long x :: r => some (.long x) :: none :: layA r
  | v :: r => some v :: layA r
def lay (as : List Value) (n : Nat) : Lv := layA as ++ List.replicate (n - (layA as).length) none
def cats (st : List Value) : Nat := (st.map fun v => v.category).sum
def tyOf : Nat → FieldType
  | 0 => .int
  | 1 => .boolean
  | _ => .long
def atOf : Nat → ArrayType
  | 0 => .int
  | 1 => .boolean
  | _ => .long
def retOf : Nat → Option FieldType
  | 0 => none
  | 1 => some .int
  | 2 => some .boolean
  | _ => some .long
def zs (al : List (Nat × Nat)) (c : Nat) : Nat := ((al.take c).map (·.2)).sum
abbrev Rs := Option (Option Value × St)
def cret (me : Me) (st : List Value) (i : Instr) : Option (Option Value) :=
  match i with
  | .ireturn => match st with
    | [.int x] => if me.rt = 1 then some (some (.int x)) else if me.rt = 2 then some (some (.int (x &&& 1))) else none
    | _ => none
  | .lreturn => match st with
    | [.long x] => if me.rt = 3 then some (some (.long x)) else none
    | _ => none
  | .return_ => match st with
    | [] => if me.rt = 0 then some none else none
    | _ => none
  | _ => none
def isRet : Instr → Bool
  | .ireturn => true
  | .lreturn => true
  | .return_ => true
  | _ => false
def gfld (P : Cl) (x : Nat) (c : Nat) (s : St) : Option Value :=
  match asc P.fx x with
  | none => none
  | some k => match asc P.fs k with
    | none => none
    | some fe => match fe.2.2.1 with
      | 0 => some (.int (gI s 0 k))
      | 1 => some (.int (gI s 0 k))
      | 2 => some (.long (gL s 0 k))
      | j + 3 => if j < c then some (.ref (j + 1)) else none
def pfld (P : Cl) (x : Nat) (ini : Bool) (v : Value) (s : St) : Option St :=
  match asc P.fx x with
  | none => none
  | some k => match asc P.fs k with
    | none => none
    | some fe => if fe.2.2.2 = true ∧ ini = false then none else
      match fe.2.2.1, v with
      | 0, .int z => some (sI s 0 k z)
      | 1, .int z => some (sI s 0 k (z &&& 1))
      | 2, .long z => some (sL s 0 k z)
      | _, _ => none
def newF (P : Cl) (t : ArrayType) (cd : Cd) (pc c : Nat) (st : List Value) : Bool :=
  match st with
  | [.int n, .ref 0] => match fetch cd (pc + 2) with
    | some (.putfield x, 3) => match asc P.fx x with
      | some k => match asc P.fs k with
        | some fe => match P.al[c]? with
          | some (tt, N) => decide (fe.2.2.1 = c + 3 ∧ t = atOf tt ∧ 0 ≤ n.toInt ∧ n.toInt = N ∧ N < 1000000)
          | none => false
        | none => false
      | none => false
    | _ => false
  | _ => false
def lda (P : Cl) (tt c : Nat) (st : List Value) (s : St) : Option (List Value) :=
  match st with
  | .int i :: .ref (a + 1) :: r => match P.al[a]? with
    | some (t2, N) => if t2 = tt ∧ a < c then (if inb N i then some ((if tt = 2 then .long (gL s (a + 1) (ix i)) else .int (gI s (a + 1) (ix i))) :: r) else none) else none
    | none => none
  | _ => none
def sta (P : Cl) (tt c : Nat) (st : List Value) (s : St) : Option (List Value × St) :=
  match st with
  | v :: .int i :: .ref (a + 1) :: r => match P.al[a]? with
    | some (t2, N) => if t2 = tt ∧ a < c then (if inb N i then (match tt, v with
        | 0, .int z => some (r, sI s (a + 1) (ix i) z)
        | 1, .int z => some (r, sI s (a + 1) (ix i) (z &&& 1))
        | 2, .long z => some (r, sL s (a + 1) (ix i) z)
        | _, _ => none) else none) else none
    | none => none
  | _ => none
def cstep {α : Type} (P : Cl) (mi : Nat) (me : Me) (rt : Option Value → St → Option α) (cl : Nat → Nat → List Value → St → Rs) (k : Nat → Nat → Lv → List Value → St → Option α) (i : Instr) (c pc : Nat) (ls : Lv) (st : List Value) (s : St) : Option α :=
  match i with
  | .getfield x => match st with
    | .ref 0 :: r => (match gfld P x c s with | some v => k c (pc + 3) ls (v :: r) s | none => none)
    | _ => none
  | .putfield x => match st with
    | v :: .ref 0 :: r => (match pfld P x (mi == 0) v s with | some s' => k c (pc + 3) ls r s' | none => none)
    | _ => none
  | .iaload => match lda P 0 c st s with | some st' => k c (pc + 1) ls st' s | none => none
  | .baload => match lda P 1 c st s with | some st' => k c (pc + 1) ls st' s | none => none
  | .laload => match lda P 2 c st s with | some st' => k c (pc + 1) ls st' s | none => none
  | .iastore => match sta P 0 c st s with | some (st', s') => k c (pc + 1) ls st' s' | none => none
  | .bastore => match sta P 1 c st s with | some (st', s') => k c (pc + 1) ls st' s' | none => none
  | .lastore => match sta P 2 c st s with | some (st', s') => k c (pc + 1) ls st' s' | none => none
  | .newarray t => if mi = 0 ∧ newF P t me.cd pc c st = true then k (c + 1) (pc + 5) ls [] s else none
  | .ldc x => match asc P.kx x with | some (.int z) => k c (pc + 2) ls (.int z :: st) s | _ => none
  | .ldc2_w x => match asc P.kx x with | some (.long z) => k c (pc + 3) ls (.long z :: st) s | _ => none
  | .invokespecial x => match st with
    | .ref 0 :: r => if x = P.oi ∧ 1 ≤ me.rf ∧ cats r + 12 ≤ me.rl then k c (pc + 3) ls r s else none
    | _ => none
  | .invokevirtual x => match asc P.mx x with
    | none => none
    | some m' => match asc P.ms m' with
      | none => none
      | some me' => match st.drop me'.na with
        | .ref 0 :: r => if m' ≠ 0 ∧ me'.rf + 1 ≤ me.rf ∧ cats r + (me'.ml + 11) + me'.rl ≤ me.rl ∧ nd (st.take me'.na) = true then
            (match cl m' c (.ref 0 :: (st.take me'.na).reverse) s with
             | some (none, s') => k c (pc + 3) ls r s'
             | some (some v, s') => k c (pc + 3) ls (v :: r) s'
             | none => none) else none
        | _ => none
  | i => if isRet i = true then (if mi = 0 ∧ c ≠ P.al.length then none else match cret me st i with | some v => rt v s | none => none)
    else match pstep i pc ls st with | some (pc', ls', st') => k c pc' ls' st' s | none => none
def cexec (P : Cl) : Nat → Nat → Me → Nat → Nat → Lv → List Value → St → Rs
  | 0, _, _, _, _, _, _, _ => none
  | f + 1, mi, me, c, pc, ls, st, s => match fetch me.cd pc with
    | none => none
    | some (i, _) => cstep P mi me (fun v s => some (v, s)) (fun m' c as s => match asc P.ms m' with | some me' => (if (layA as).length ≤ me'.ml then cexec P f m' me' c 0 (lay as me'.ml) [] s else none) | none => none) (cexec P f mi me) i c pc ls st s
def ccall (P : Cl) (f m' c : Nat) (as : List Value) (s : St) : Rs := match asc P.ms m' with | some me' => (if (layA as).length ≤ me'.ml then cexec P f m' me' c 0 (lay as me'.ml) [] s else none) | none => none
end Jvm.LM

namespace Jvm.LM
open Sem ClassFile Op Lib Jvm.Stand Jvm.Free Jvm.LawKit Jvm.RoadKit
/-! how the machine's state stands in the heap -/
theorem adr_ne (a j : Nat) : a + (j + 1) ≠ a := by omega
theorem adr_ne' (a j : Nat) : a ≠ a + (j + 1) := by omega
theorem adr_ne2 (a : Nat) {j k : Nat} (h : j ≠ k) : a + (j + 1) ≠ a + (k + 1) := by omega
def Fval (adr c : Nat) (s : St) (k : Nat) (fe : Fe) : Value :=
  match fe.2.2.1 with
  | 0 => .int (gI s 0 k)
  | 1 => .int (gI s 0 k)
  | 2 => .long (gL s 0 k)
  | j + 3 => if j < c then .ref (adr + (j + 1)) else .null
def elv (tt : Nat) (s : St) (j i : Nat) : Value := if tt = 2 then .long (gL s j i) else .int (gI s j i)
def ARep (Z : State) (h : Heap) (a tt N : Nat) (s : St) (j : Nat) : Prop :=
  ∃ cl : Cell, Arr Z h a cl (tyOf tt) ∧ cl.slots.size = N ∧ ∀ i, i < N → cl.slots[i]? = some (elv tt s j i)
def HRep (P : Cl) (Z : State) (h : Heap) (adr c : Nat) (s : St) : Prop :=
  Exa Z h adr P.nm ∧ (∀ k fe, asc P.fs k = some fe → Fld Z h adr P.nm fe.1 fe.2.1 (Fval adr c s k fe)) ∧
  (∀ (j tt N : Nat), P.al[j]? = some (tt, N) → j < c → ARep Z h (adr + (j + 1)) tt N s (j + 1)) ∧
  (∀ j i, c < j → gI s j i = 0 ∧ gL s j i = 0) ∧ c ≤ P.al.length
def fkTy (P : Cl) : Nat → FieldType
  | 0 => .int
  | 1 => .boolean
  | 2 => .long
  | j + 3 => .array (tyOf ((P.al[j]?.map (·.1)).getD 0))
def yOf (P : Cl) (me : Me) : MethodName := ⟨P.nm, me.nm, me.ds⟩
def LinkC (P : Cl) (Z : State) (a0 : Array Value) : Prop :=
  ((∃ nF, (Cond.instantiable P.nm nF).before a0 Z = true) ∧ (Cond.initialized P.nm).before a0 Z = true) ∧
  (∀ x k, asc P.fx x = some k → ∀ fe, asc P.fs k = some fe → (Cond.fieldLink P.nm x P.nm fe.1 fe.2.1).before a0 Z = true) ∧
  (∀ k fe, asc P.fs k = some fe → (if fe.2.2.2 = true then Cond.laysFinal P.nm P.nm fe.1 fe.2.1 else Cond.lays P.nm P.nm fe.1 fe.2.1).before a0 Z = true) ∧
  (∀ k fe, asc P.fs k = some fe → parseFieldDescriptor fe.2.1 = some (fkTy P fe.2.2.1)) ∧
  (∀ k k' fe fe', asc P.fs k = some fe → asc P.fs k' = some fe' → k ≠ k' → fe.1 ≠ fe'.1 ∧ (3 ≤ fe.2.2.1 → fe.2.2.1 ≠ fe'.2.2.1)) ∧
  (∀ (j tt N : Nat), P.al[j]? = some (tt, N) → tt ≤ 2 ∧ (Cond.arrayClass (tyOf tt)).before a0 Z = true) ∧
  (∀ x v, asc P.kx x = some v → match v with
    | .int z => (Cond.constant P.nm x z).before a0 Z = true
    | .long z => (Cond.constantLong P.nm x z).before a0 Z = true
    | _ => True) ∧
  ((Cond.methodLink P.nm P.oi Lib.objectInit).before a0 Z = true ∧ (Cond.instanceMethod Lib.objectInit).before a0 Z = true ∧ (Cond.code Lib.objectInit ⟨#[0xb1]⟩ 1 none).before a0 Z = true) ∧
  (∀ mi me, asc P.ms mi = some me → ∃ (bytes : ByteArray) (ps : List FieldType), (Cond.code (yOf P me) bytes me.ml (retOf me.rt)).before a0 Z = true ∧
    (∀ pc i n, fetch me.cd pc = some (i, n) → decode bytes pc = .ok (i, n) ∧ (isSw i = true ∨ n = ilen i)) ∧ parseMethodDescriptor me.ds = some ⟨ps, retOf me.rt⟩ ∧ ps.length = me.na) ∧
  (∀ x mi, asc P.mx x = some mi → ∀ me, asc P.ms mi = some me → (Cond.methodLink P.nm x (yOf P me)).before a0 Z = true ∧ (Cond.instanceMethod (yOf P me)).before a0 Z = true ∧
    ((Cond.privateMethod (yOf P me)).before a0 Z = true ∨ ((Cond.declares (yOf P me)).before a0 Z = true ∧ (Cond.selects P.nm (yOf P me) (yOf P me)).before a0 Z = true))) ∧
  plainName P.nm = true ∧ (P.nm ≠ "java/lang/invoke/MethodHandle" ∧ P.nm ≠ "java/lang/invoke/VarHandle") ∧ (∀ me, asc P.ms 0 = some me → me.nm = "<init>")
theorem gI_sI (s : St) (c j : Nat) (v : Int32) (a b : Nat) : gI (sI s c j v) a b = if a = c ∧ b = j then v else gI s a b := rfl
theorem gL_sI (s : St) (c j : Nat) (v : Int32) (a b : Nat) : gL (sI s c j v) a b = gL s a b := rfl
theorem gI_sL (s : St) (c j : Nat) (v : Int64) (a b : Nat) : gI (sL s c j v) a b = gI s a b := rfl
theorem gL_sL (s : St) (c j : Nat) (v : Int64) (a b : Nat) : gL (sL s c j v) a b = if a = c ∧ b = j then v else gL s a b := rfl
theorem laid_of {P : Cl} {Z : State} {a0 : Array Value} (LK : LinkC P Z a0) {k : Nat} {fe : Fe} (hk : asc P.fs k = some fe) : Laid Z a0 P.nm P.nm fe.1 fe.2.1 := by
  have q := LK.2.2.1 k fe hk
  split at q
  · exact Or.inr q
  · exact Or.inl q
/-- a heap that is alike where the object lies -/
theorem HRep.congr {P : Cl} {Z : State} {h h' : Heap} {adr c : Nat} {s : St} (H : HRep P Z h adr c s) (e : ∀ x, adr ≤ x → x < adr + 1 + P.al.length → h'[x]? = h[x]?) : HRep P Z h' adr c s := by
  obtain ⟨h1, h2, h3, h4, h5⟩ := H
  have ea : h'[adr]? = h[adr]? := e adr (Nat.le_refl _) (by omega)
  refine ⟨?_, fun k fe hk => ?_, fun j tt N hj hc => ?_, h4, h5⟩
  · obtain ⟨cell, k, q1, r⟩ := h1; exact ⟨cell, k, by rw [ea]; exact q1, r⟩
  · obtain ⟨cell, cf, k, i, f, q1, r⟩ := h2 k fe hk; exact ⟨cell, cf, k, i, f, by rw [ea]; exact q1, r⟩
  · obtain ⟨cl, ⟨q1, q2⟩, q3⟩ := h3 j tt N hj hc
    exact ⟨cl, ⟨by rw [e _ (by omega) (by omega)]; exact q1, q2⟩, q3⟩
theorem HRep.putFld {P : Cl} {Z : State} {a0 : Array Value} (LK : LinkC P Z a0) {h h' : Heap} {adr c k : Nat} {fe : Fe} {s s' : St} {v : Value} (H : HRep P Z h adr c s) (hk : asc P.fs k = some fe)
    (W : Wr h h' adr (RoadKit.slotOf Z P.nm fe.1 fe.2.1) v) (hv : v = Fval adr c s' k fe) (hI : ∀ a b, (a ≠ 0 ∨ b ≠ k) → gI s' a b = gI s a b ∧ gL s' a b = gL s a b) : HRep P Z h' adr c s' := by
  obtain ⟨h1, h2, h3, h4, h5⟩ := H
  refine ⟨h1.wr W, fun k2 fe2 hk2 => ?_, fun j tt N hj hc => ?_, fun j i hj => ?_, h5⟩
  · by_cases e : k2 = k
    · subst e; cases hk.symm.trans hk2
      rw [← hv]; exact (h2 _ _ hk).same W
    · have hne := (LK.2.2.2.2.1 _ _ _ _ hk2 hk e).1
      have q := (h2 _ _ hk2).other W (Or.inr (slot_ne (laid_of LK hk2) (laid_of LK hk) hne (LK.2.2.2.1 _ _ hk2) (LK.2.2.2.1 _ _ hk)))
      have e2 : Fval adr c s' k2 fe2 = Fval adr c s k2 fe2 := by
        have := hI 0 k2 (Or.inr e)
        simp only [Fval]; split <;> simp [this.1, this.2]
      rw [e2]; exact q
  · obtain ⟨cl, q1, q2, q3⟩ := h3 j tt N hj hc
    refine ⟨cl, q1.other W (adr_ne _ _), q2, fun i hi => ?_⟩
    have := hI (j + 1) i (Or.inl (by omega))
    rw [q3 i hi]; simp only [elv, this.1, this.2]
  · have := hI j i (Or.inl (by omega))
    rw [this.1, this.2]; exact h4 j i hj
theorem HRep.putArr {P : Cl} {Z : State} {h h' : Heap} {adr c a tt N n : Nat} {s s' : St} {v : Value} (H : HRep P Z h adr c s) (ha : P.al[a]? = some (tt, N)) (hac : a < c) (hn : n < N)
    (W : Wr h h' (adr + (a + 1)) n v) (hv : v = elv tt s' (a + 1) n) (hI : ∀ x y, (x ≠ a + 1 ∨ y ≠ n) → gI s' x y = gI s x y ∧ gL s' x y = gL s x y) : HRep P Z h' adr c s' := by
  obtain ⟨h1, h2, h3, h4, h5⟩ := H
  refine ⟨h1.wr W, fun k fe hk => ?_, fun j tt2 N2 hj hc => ?_, fun j i hj => ?_, h5⟩
  · have q := (h2 _ _ hk).other W (Or.inl (adr_ne' _ _))
    have e2 : Fval adr c s' k fe = Fval adr c s k fe := by
      have := hI 0 k (Or.inl (by omega))
      simp only [Fval]; split <;> simp [this.1, this.2]
    rw [e2]; exact q
  · obtain ⟨cl, q1, q2, q3⟩ := h3 j tt2 N2 hj hc
    by_cases e : j = a
    · subst e; cases ha.symm.trans hj
      refine ⟨cl.setSlot n v, q1.same W, by rw [sz_set]; exact q2, fun i hi => ?_⟩
      by_cases ei : i = n
      · subst ei; rw [← hv]; simp [Cell.setSlot, q2, hi]
      · have := hI (j + 1) i (Or.inr ei)
        have q4 := q3 i hi
        simp only [elv, this.1, this.2] at q4 ⊢
        simp only [Cell.setSlot]
        rw [Array.getElem?_setIfInBounds_ne (fun q => ei q.symm)]; exact q4
    · refine ⟨cl, q1.other W (adr_ne2 _ e), q2, fun i hi => ?_⟩
      have := hI (j + 1) i (Or.inl (by omega))
      rw [q3 i hi]; simp only [elv, this.1, this.2]
  · have := hI j i (Or.inl (by omega))
    rw [this.1, this.2]; exact h4 j i hj
theorem HRep.newArr {P : Cl} {Z : State} {a0 : Array Value} (LK : LinkC P Z a0) {h h1 h2 : Heap} {adr c k tt N : Nat} {fe : Fe} {s : St} {n : Int32} {cA : ClassId} (H : HRep P Z h adr c s) (hk : asc P.fs k = some fe) (hkd : fe.2.2.1 = c + 3)
    (ha : P.al[c]? = some (tt, N)) (hn0 : 0 ≤ n.toInt) (hn : n.toInt = N) (hsz : h.size = adr + 1 + c) (E : Ext h h1) (A : Arr Z h1 h.size (newA cA (tyOf tt) n) (tyOf tt)) (W : Wr h1 h2 adr (RoadKit.slotOf Z P.nm fe.1 fe.2.1) (.ref h.size)) : HRep P Z h2 adr (c + 1) s := by
  obtain ⟨g1, g2, g3, g4, g5⟩ := H
  have hc : c < P.al.length := (List.getElem?_eq_some_iff.mp ha).1
  have hNn : n.toNatClampNeg = N := by simp only [Int32.toNatClampNeg]; omega
  have htt := (LK.2.2.2.2.2.1 _ _ _ ha).1
  refine ⟨(g1.ext E).wr W, fun k2 fe2 hk2 => ?_, fun j tt2 N2 hj hjc => ?_, fun j i hj => g4 j i (by omega), hc⟩
  · by_cases e : k2 = k
    · subst e; cases hk.symm.trans hk2
      have q := ((g2 _ _ hk).ext E).same W
      have e2 : Fval adr (c + 1) s k2 fe = .ref h.size := by simp only [Fval, hkd]; rw [if_pos (Nat.lt_succ_self c), hsz]; exact congrArg Value.ref (show adr + (c + 1) = adr + 1 + c by omega)
      rw [e2]; exact q
    · have hne := LK.2.2.2.2.1 _ _ _ _ hk2 hk e
      have q := ((g2 _ _ hk2).ext E).other W (Or.inr (slot_ne (laid_of LK hk2) (laid_of LK hk) hne.1 (LK.2.2.2.1 _ _ hk2) (LK.2.2.2.1 _ _ hk)))
      have e2 : Fval adr (c + 1) s k2 fe2 = Fval adr c s k2 fe2 := by
        simp only [Fval]; split
        · rfl
        · rfl
        · rfl
        · rename_i j hj
          have : j ≠ c := fun q => (hne.2 (by rw [hj]; omega)) (by rw [hj, hkd, q])
          by_cases b : j < c
          · rw [if_pos b, if_pos (by omega)]
          · rw [if_neg b, if_neg (by omega)]
      rw [e2]; exact q
  · by_cases e : j = c
    · subst e; cases ha.symm.trans hj
      have hA : Arr Z h2 h.size (newA cA (tyOf tt) n) (tyOf tt) := A.other W (show h.size ≠ adr by omega)
      refine ⟨newA cA (tyOf tt) n, by rw [show adr + (j + 1) = h.size by omega]; exact hA, by rw [sz_new]; exact hNn, fun i hi => ?_⟩
      have z := g4 (j + 1) i (by omega)
      simp only [newA, hNn, elv, z.1, z.2]
      rw [Array.getElem?_replicate, if_pos hi]
      have : tt = 0 ∨ tt = 1 ∨ tt = 2 := by omega
      rcases this with rfl | rfl | rfl <;> rfl
    · obtain ⟨cl, q1, q2, q3⟩ := g3 j tt2 N2 hj (by omega)
      exact ⟨cl, (q1.ext E).other W (adr_ne _ _), q2, q3⟩
/-- outside the object nothing moves -/
def Kp (h0 h : Heap) (adr n : Nat) : Prop := ∀ x, (x < adr ∨ adr + 1 + n ≤ x) → h[x]? = h0[x]?
theorem Kp.wr {h0 h h' : Heap} {adr n a sl : Nat} {v : Value} (K : Kp h0 h adr n) (W : Wr h h' a sl v) (h1 : adr ≤ a) (h2 : a < adr + 1 + n) : Kp h0 h' adr n := fun x hx => by
  obtain ⟨cell, q1, q2, q3, rfl⟩ := W
  rw [Array.getElem?_setIfInBounds_ne (by omega)]; exact K x hx
theorem Kp.ext {h0 h h' : Heap} {adr n : Nat} (K : Kp h0 h adr n) (E : Ext h h') (h1 : h'.size ≤ adr + 1 + n) (h2 : adr ≤ h.size) : Kp h0 h' adr n := fun x hx => by
  rw [← K x hx]
  by_cases b : x < h.size
  · obtain ⟨c, hc⟩ : ∃ c, h[x]? = some c := ⟨h[x], Array.getElem?_eq_getElem b⟩
    rw [hc]; exact E.2 _ _ hc
  · rw [Array.getElem?_eq_none (by omega), Array.getElem?_eq_none (by omega)]
theorem Kp.trans {h0 h h' : Heap} {adr n : Nat} (K : Kp h0 h adr n) (K' : Kp h h' adr n) : Kp h0 h' adr n := fun x hx => (K' x hx).trans (K x hx)
def cRoom (P : Cl) (mi : Nat) (me : Me) : Room := { frames := me.rf, cells := if mi = 0 then P.al.length else 0, slots := if mi = 0 then zs P.al P.al.length else 0, locals := me.rl }
def QC (P : Cl) (Z : State) (n0 adr mi c : Nat) (w : Option Value) (s' : St) (h0 : Heap) (v : Option Value) (h : Heap) (L : List Loc) : Prop :=
  (v = w ∧ ∀ ρ, v.toList.map (va ρ) = v.toList) ∧ Fr n0 L ∧ HRep P Z h adr (if mi = 0 then P.al.length else c) s' ∧ Kp h0 h adr P.al.length ∧ h.size = (if mi = 0 then adr + 1 + P.al.length else h0.size)
/-- the run from S ends, and so -/
def Don (p : Program) (e : Env) (below : List Frame) (s₀ : State) (rm : Room) (Q : Option Value → Heap → List Loc → Prop) (S : State) : Prop :=
  ∃ s₂ o, Steps p.tables e below S s₂ ∧ s₂.status = .running ∧ Ended s₂ below o ∧ ∃ v L, o = .returned v ∧ Q v s₂.heap L ∧ FrameEnd s₀ o s₂ L rm.cells rm.slots
theorem Don.step {p : Program} {e : Env} {below : List Frame} {s₀ : State} {rm : Room} {Q : Option Value → Heap → List Loc → Prop} {S S' : State} (h : ∀ t, Steps p.tables e below S' t → Steps p.tables e below S t) (D : Don p e below s₀ rm Q S') : Don p e below s₀ rm Q S := by
  obtain ⟨s₂, o, h1, h2⟩ := D; exact ⟨s₂, o, h _ h1, h2⟩
def Inv (P : Cl) (Z : State) (n0 adr mi c : Nat) (s : St) (h0 h : Heap) (locs : List Loc) : Prop :=
  HRep P Z h adr c s ∧ Fr n0 locs ∧ Kp h0 h adr P.al.length ∧ h.size = (if mi = 0 then adr + 1 + c else h0.size)
def co (mi c : Nat) : Nat := if mi = 0 then c else 0
def zo (P : Cl) (mi c : Nat) : Nat := if mi = 0 then zs P.al c else 0
/-- what the walk of a body is to show, at a given fuel -/
def CW (P : Cl) (Z : State) (n0 adr f mi : Nat) (me : Me) : Prop :=
  ∀ (p : Program) (l : Launch) (e : Env) (s₀ : State) (m : MethodId) (args : Array Value) (below : List Frame) (meth : Method) (cd : Code) (T : State) (locs : List Loc) (h0 : Heap) (c pc : Nat) (ls : Lv) (st : List Value) (s : St) (v : Option Value) (s' : St) (L : Array Slot),
    p.tables.exec = Jvm.exec → Z.Warmed39 s₀.vm → s₀.vm.findClass P.nm = some m.cls → meth.name = me.nm → meth.sig.returnType = retOf me.rt → cd.maxLocals = me.ml → meth.locks = false → (mi = 0 → s₀.heap.size = adr + 1) →
    (∀ pc i n, fetch me.cd pc = some (i, n) → decode cd.code pc = .ok (i, n) ∧ (isSw i = true ∨ n = ilen i)) →
    cexec P f mi me c pc ls st s = some (v, s') →
    Stand p l e (cRoom P mi me) s₀ m args below meth cd T locs (co mi c) (zo P mi c) →
    Inv P Z n0 adr mi c s h0 T.heap locs → LR (adr + ·) ls L → ls.length = me.ml →
    Don p e below s₀ (cRoom P mi me) (QC P Z n0 adr mi c v s' h0) (T.setTop (mkF m pc L (st.map (va (adr + ·)))))
theorem zs_mono (al : List (Nat × Nat)) {a b : Nat} (h : a ≤ b) : zs al a ≤ zs al b := by
  obtain ⟨d, rfl⟩ := Nat.le.dest h
  simp only [zs]
  rw [List.take_add, List.map_append, List.sum_append]; omega
theorem zs_succ (al : List (Nat × Nat)) {c tt N : Nat} (h : al[c]? = some (tt, N)) : zs al (c + 1) = zs al c + N := by
  simp only [zs, List.take_add_one, h]; simp
theorem zs_le (al : List (Nat × Nat)) (a : Nat) : zs al a ≤ zs al al.length := by
  by_cases h : a ≤ al.length
  · exact zs_mono al h
  · simp only [zs]; rw [List.take_of_length_le (by omega), List.take_of_length_le (Nat.le_refl _)]
    exact Nat.le_refl _
theorem narrow_I (z : Int32) : narrow .int (.int z) = .int z := rfl
theorem inb_not {n : Nat} {i : Int32} (h : inb n i) : ¬ (i < 0 ∨ n ≤ i.toNatClampNeg) := by
  intro q
  simp only [Int32.lt_iff_toInt_lt, Int32.toNatClampNeg, Int32.reduceToInt] at q
  have := h.1; have := h.2
  omega
theorem inb_ix {n : Nat} {i : Int32} (h : inb n i) : ix i < n := by
  have := h.1; have := h.2
  simp only [ix, Int32.toNatClampNeg]; omega
end Jvm.LM

namespace Jvm.LM
open Sem ClassFile Op Lib Jvm.Stand Jvm.Free Jvm.LawKit Jvm.RoadKit
/-! entering a method -/
def slA : List Value → List Slot
  | [] => []
  | v :: r => if v.category = 2 then .val v :: .second :: slA r else .val v :: slA r
theorem foldl_slA (as : List Value) (acc : Array Slot) : as.foldl (fun acc v => if v.category = 2 then (acc.push (.val v)).push .second else acc.push (.val v)) acc = acc ++ (slA as).toArray := by
  induction as generalizing acc with
  | nil => simp [slA]
  | cons v r ih =>
    rw [List.foldl_cons, ih]
    simp only [slA]
    split <;> simp
theorem al_eq (args : Array Value) (n : Nat) : argsToLocals args n = (let filled := args.foldl (init := #[]) fun acc v => if v.category = 2 then (acc.push (.val v)).push .second else acc.push (.val v); filled ++ Array.replicate (n - filled.size) .unset) := rfl
theorem atl_eq (as : List Value) (n : Nat) : argsToLocals as.toArray n = (slA as ++ List.replicate (n - (slA as).length) Slot.unset).toArray := by
  rw [al_eq]
  have : Array.foldl (fun acc v => if v.category = 2 then (acc.push (Slot.val v)).push .second else acc.push (.val v)) #[] as.toArray = (slA as).toArray := by
    rw [List.foldl_toArray, foldl_slA]; simp
  simp only [this]
  simp
theorem wfl_one {x : Slot} {l : List Slot} (h : WFf (fun k => l[k]?)) (hx : x ≠ .second) (hc : ∀ v, x = .val v → v.category ≠ 2) : WFf (fun k => (x :: l)[k]?) := by
  obtain ⟨h1, h2, h3⟩ := h
  refine ⟨fun k v hk hv => ?_, fun k hk => ?_, ?_⟩
  · cases k with
    | zero => simp at hk; exact absurd hv (hc v hk)
    | succ k => simp at hk ⊢; exact h1 k v hk hv
  · cases k with
    | zero => simp at hk; exact absurd (by simpa using hk) h3
    | succ k => simp at hk ⊢; exact h2 k (by simpa using hk)
  · simpa using hx
theorem wfl_two {v : Value} {l : List Slot} (h : WFf (fun k => l[k]?)) (hc : v.category = 2) : WFf (fun k => (Slot.val v :: .second :: l)[k]?) := by
  obtain ⟨h1, h2, h3⟩ := h
  refine ⟨fun k w hk hv => ?_, fun k hk => ?_, by simp⟩
  · match k with
    | 0 => simp
    | 1 => simp at hk
    | k + 2 => simp at hk ⊢; exact h1 k w hk hv
  · match k with
    | 0 => exact ⟨v, by simp, hc⟩
    | 1 => exact absurd (by simpa using hk) h3
    | k + 2 => simp at hk ⊢; exact h2 k (by simpa using hk)
theorem wfl_rep (n : Nat) : WFf (fun k => (List.replicate n Slot.unset)[k]?) := by
  refine ⟨fun k v hk _ => ?_, fun k hk => ?_, ?_⟩
  · simp [List.getElem?_replicate] at hk
  · simp [List.getElem?_replicate] at hk
  · simp [List.getElem?_replicate]
theorem wfl_slA (as : List Value) (r : List Slot) (h : WFf (fun k => r[k]?)) : WFf (fun k => (slA as ++ r)[k]?) := by
  induction as with
  | nil => simpa [slA] using h
  | cons v t ih =>
    simp only [slA]
    split
    · rename_i hc; exact wfl_two ih hc
    · rename_i hc; exact wfl_one ih (by simp) (fun w hw => by cases hw; exact hc)
theorem slA_len (ρ : Nat → Nat) (as : List Value) (hd : ∀ v ∈ as, ∀ x, v ≠ .double x) : (slA (as.map (va ρ))).length = (layA as).length := by
  induction as with
  | nil => rfl
  | cons v t ih =>
    have ih := ih fun w hw => hd w (List.mem_cons_of_mem _ hw)
    cases v <;> simp [slA, layA, va, Value.category, ih]
    exact absurd rfl (hd _ (List.mem_cons_self ..) _)
theorem layA_get {ρ : Nat → Nat} {as : List Value} (hd : ∀ v ∈ as, ∀ x, v ≠ .double x) {k : Nat} {w : Value} (h : (layA as)[k]? = some (some w)) : (slA (as.map (va ρ)))[k]? = some (.val (va ρ w)) := by
  induction as generalizing k with
  | nil => simp [layA] at h
  | cons v t ih =>
    have ih' := fun {k} => ih (k := k) fun w hw => hd w (List.mem_cons_of_mem _ hw)
    cases v
    case long x =>
      simp only [layA] at h
      match k with
      | 0 => simp at h; subst h; simp [slA, va, Value.category]
      | 1 => simp at h
      | k + 2 => simp at h; simpa [slA, va, Value.category] using ih' h
    case double x => exact absurd rfl (hd _ (List.mem_cons_self ..) _)
    all_goals
      simp only [layA] at h
      match k with
      | 0 => simp at h; subst h; simp [slA, va, Value.category]
      | k + 1 => simp at h; simpa [slA, va, Value.category] using ih' h
theorem lay_LR {ρ : Nat → Nat} {as : List Value} (hd : ∀ v ∈ as, ∀ x, v ≠ .double x) {n : Nat} (hn : (layA as).length ≤ n) : LR ρ (lay as n) (argsToLocals (as.map (va ρ)).toArray n) := by
  rw [atl_eq]
  have hl := slA_len ρ as hd
  refine ⟨by simp [lay, hl], fun k w hk => ?_, ?_⟩
  · simp only [lay] at hk
    rw [List.getElem?_append] at hk
    split at hk
    · have := layA_get (ρ := ρ) hd hk
      rw [List.getElem?_toArray, List.getElem?_append_left (by omega)]; exact this
    · simp [List.getElem?_replicate] at hk
  · have := wfl_slA (as.map (va ρ)) (List.replicate (n - (slA (as.map (va ρ))).length) Slot.unset) (wfl_rep _)
    have q : WFf (fun k => ((slA (as.map (va ρ)) ++ List.replicate (n - (slA (as.map (va ρ))).length) Slot.unset).toArray)[k]?) := by
      simpa using this
    exact q
theorem lay_len {as : List Value} {n : Nat} (hn : (layA as).length ≤ n) : (lay as n).length = n := by simp [lay]; omega
section Call
variable {p : Program} {l : Launch} {e : Env} {R : Room} {s : State} {m : MethodId} {args : Array Value} {below : List Frame} {meth : Method} {c : Code} {T : State} {locs : List Loc} {cells slots : Nat}
/-- a private method of a class that is no interface -/
theorem privCall (X : Stand p l e R s m args below meth c T locs cells slots) (hexec : p.tables.exec = Jvm.exec) {own : String} {index : Nat} {y : MethodName} {bytes : ByteArray} {maxL nF : Nat} {ret : Option FieldType}
    (hown : s.vm.findClass own = some m.cls) (hlink : (Cond.methodLink own index y).before args s = true) (hinst : (Cond.instanceMethod y).before args s = true) (hi : (Cond.instantiable y.cls nF).before args s = true)
    (hpriv : s.PrivateAt y) (hcode : (Cond.code y bytes maxL ret).before args s = true) (hy : y.cls ≠ "java/lang/invoke/MethodHandle" ∧ y.cls ≠ "java/lang/invoke/VarHandle")
    {W : Nat} {Pre : Free.Pt → Array Value → Prop} {Post : Free.Pt → Array Value → Option Value → Free.Pt → Prop} (hK : Free.Back l R p e below s args y 3 W Pre Post)
    {g : JFrame} (hg : g.method = m) (hsize : g.locals.size = c.maxLocals) {a : Addr} {cell : Cell} (hcell : T.heap[a]? = some cell) (hobj : ∀ q, cell.vm ≠ .statics q)
    {argsL rest : List Value} (hlen : ∀ sig, parseMethodDescriptor y.desc = some sig → argsL.length = sig.parameters.length)
    (hstack : g.stack = argsL.reverse ++ .ref a :: rest) (hW : 2 * g.monitorRoom + (rest.map fun v => v.category).sum ≤ W) (hdg : decode c.code g.pc = .ok (.invokevirtual index, 3))
    (hpre : ∀ vm₁, s.WarmedH vm₁ → Pre ⟨T.setVm vm₁, locs, cells, slots⟩ (.ref a :: argsL).toArray) :
    ∃ (v : Option Value) (vm₁ : Vm) (B : Free.Pt), s.WarmedH vm₁ ∧ Stand p l e R s m args below meth c B.U B.locs B.cells B.slots ∧ Post ⟨T.setVm vm₁, locs, cells, slots⟩ (.ref a :: argsL).toArray v B ∧
      Steps p.tables e below (T.setTop g) (B.U.setTop { g with pc := g.pc + 3, stack := v.toList ++ rest }) := by
  obtain ⟨mk, mM, hnamed, hmM, hst, hab⟩ := Cond.instanceMethod_spec hinst
  obtain ⟨mM', cM, hmM', -, -, -, -, -, -, hsig⟩ := Cond.code_spec hnamed hcode
  cases hmM.symm.trans hmM'
  obtain ⟨cc, kk, i1, i2, -, i4, -⟩ := Cond.instantiable_spec hi
  cases (findClass_of_methodNamed hnamed).symm.trans i1
  have hni : kk.isInterface = false := by
    cases q : kk.isInterface
    · rfl
    · rw [q] at i4; simp at i4
  have hsel : selectMethod e.platform s.vm cell.cls mk = .method mk := selectMethod_private hmM (hpriv mk mM hnamed hmM)
  obtain ⟨vm₁, X₁, hstep⟩ := X.invokevirtual hexec hown hlink hnamed hmM hst i2 hni hy hcell hobj hsel hmM hab i2 hni (g := g) hg (hlen _ hsig) hstack hdg
  obtain ⟨v, B, X', hpost, hs⟩ := hK m meth c ⟨T.setVm vm₁, locs, cells, slots⟩ { g with stack := rest } (.invokevirtual index) mk (.ref a :: argsL).toArray X₁ hg hsize hdg hW (X₁.named hnamed) (hpre vm₁ X₁.warmed)
  exact ⟨v, vm₁, B, X₁.warmed, X', hpost, hstep _ fun acts => by rw [doInvoke_state]; exact hs⟩
end Call
theorem cats_va (ρ : Nat → Nat) (st : List Value) : ((st.map (va ρ)).map fun v => v.category).sum = cats st := by
  simp only [cats, List.map_map]; congr 1; exact List.map_congr_left fun v _ => cat_va ρ v
/-- what a method of the class keeps, as a contract, from its walk -/
theorem met_of_CW {P : Cl} {Z : State} {a0 : Array Value} (LK : LinkC P Z a0) {n0 adr f mi : Nat} {me : Me} (hme : asc P.ms mi = some me) (hW : CW P Z n0 adr f mi me) (l : Launch) {bytes : ByteArray}
    (hdec : ∀ pc i n, fetch me.cd pc = some (i, n) → decode bytes pc = .ok (i, n) ∧ (isSw i = true ∨ n = ilen i))
    {as : List Value} (hd : ∀ v ∈ as, ∀ x, v ≠ .double x) (hlen : (layA as).length ≤ me.ml) {c : Nat} {s s' : St} {v : Option Value} {h : Heap} (hr : cexec P f mi me c 0 (lay as me.ml) [] s = some (v, s')) (hc : mi = 0 → c = 0)
    (H : HRep P Z h adr c s) (hsz : mi = 0 → h.size = adr + 1) :
    MetFree l (yOf P me) (head1 [Cond.code (yOf P me) bytes me.ml (retOf me.rt)] (cRoom P mi me)) (fun a U => a = (as.map (va (adr + ·))).toArray ∧ Z.Warmed39 U.vm ∧ U.heap = h) (fun _ _ _ _ _ => True)
      (fun _ U o U' => ∃ w L, o = .returned w ∧ QC P Z n0 adr mi c v s' h w U'.heap L ∧ FrameEnd U o U' L (cRoom P mi me).cells (cRoom P mi me).slots) := by
  refine MetFree.of_bodySF (plainFor_of_name LK.2.2.2.2.2.2.2.2.2.2.1) hisR ?_
  intro p e s₀ m args below meth cd s₁ Bd hml hP hK
  obtain ⟨rfl, hZ, hh⟩ := hP
  have e0 : s₁.heap = h := by rw [← hh, Bd.state]; rfl
  have X0 : Stand p l e (cRoom P mi me) s₀ m _ below meth cd s₁ [] 0 0 := Stand.of_body Bd
  have hown : s₀.vm.findClass P.nm = some m.cls := findClass_of_methodNamed Bd.named
  have hnm : meth.name = me.nm := (name_of_methodNamed Bd.named Bd.method).1
  have hk0 : co mi c = 0 := by simp only [co]; split; · rename_i q; exact hc q
                               · rfl
  have hz0 : zo P mi c = 0 := by
    simp only [zo]; split
    · rename_i q; rw [hc q]; simp [zs]
    · rfl
  have D := hW p l e s₀ m _ below meth cd s₁ [] h c 0 (lay as me.ml) [] s v s' _ Bd.exec hZ hown hnm Bd.returns hml Bd.notSynchronized (fun q => by rw [hh]; exact hsz q)
    (fun pc i n q => by rw [Bd.bytes]; exact hdec pc i n q) hr (by rw [hk0, hz0]; exact X0)
    ⟨by rw [e0]; exact H, Fr.nil n0, by rw [e0]; exact fun x _ => rfl, by
      rw [e0]; split
      · rename_i q; rw [hsz q, hc q]
      · rfl⟩ (lay_LR hd hlen) (lay_len hlen)
  obtain ⟨s₂, o, a1, a2, a3, w, L, a4, a5, a6⟩ := D
  exact ⟨s₂, o, a1, a2, a3, w, L, a4, a5, a6⟩
end Jvm.LM

namespace Jvm.LM
open Sem ClassFile Op Lib Jvm.Stand Jvm.Free Jvm.LawKit Jvm.RoadKit
section Steps
variable {p : Program} {l : Launch} {e : Env} {R : Room} {s₀ : State} {m : MethodId} {args : Array Value} {below : List Frame} {meth : Method} {cd : Code} {T : State} {locs : List Loc} {cells slots : Nat}
variable {P : Cl} {Z : State} {a0 : Array Value} {n0 adr c mi : Nat} {s s' : St} {h0 : Heap}
theorem gfld_val {x : Nat} {w : Value} (hg : gfld P x c s = some w) : ∃ k fe, asc P.fx x = some k ∧ asc P.fs k = some fe ∧ Fval adr c s k fe = va (adr + ·) w := by
  unfold gfld at hg
  split at hg
  · cases hg
  · rename_i k e1
    split at hg
    · cases hg
    · rename_i fe e2
      refine ⟨k, fe, e1, e2, ?_⟩
      simp only [Fval]
      split at hg
      · rename_i e3; cases hg; first | rfl | (rw [e3]; rfl)
      · rename_i e3; cases hg; first | rfl | (rw [e3]; rfl)
      · rename_i e3; cases hg; first | rfl | (rw [e3]; rfl)
      · rename_i j e3
        split at hg
        · rename_i e4; cases hg; first | (simp only [if_pos e4]; rfl) | (rw [e3]; simp only [if_pos e4]; rfl)
        · cases hg
theorem st_get (LK : LinkC P Z a0) (X : Stand p l e R s₀ m args below meth cd T locs cells slots) (hx : p.tables.exec = Jvm.exec) (hZ : Z.Warmed39 s₀.vm) (hown : s₀.vm.findClass P.nm = some m.cls) (H : HRep P Z T.heap adr c s) {x pc : Nat} {w : Value} (hg : gfld P x c s = some w)
    (hd : decode cd.code pc = .ok (.getfield x, 3)) {L : Array Slot} {r : List Value} :
    ∃ T', Stand p l e R s₀ m args below meth cd T' locs cells slots ∧ T'.heap = T.heap ∧ ∀ t, Steps p.tables e below (T'.setTop (mkF m (pc + 3) L (va (adr + ·) w :: r))) t → Steps p.tables e below (T.setTop (mkF m pc L (.ref adr :: r))) t := by
  obtain ⟨k, fe, e1, e2, e3⟩ := gfld_val (adr := adr) hg
  have F := H.2.1 k fe e2
  rw [e3] at F
  exact getF X hx hZ hown (host := "") (Or.inl (LK.2.1 _ _ e1 _ e2)) Via.refl rfl F (g := mkF m pc L (.ref adr :: r)) rfl rfl hd
theorem st_put (LK : LinkC P Z a0) (X : Stand p l e R s₀ m args below meth cd T locs cells slots) (hx : p.tables.exec = Jvm.exec) (hZ : Z.Warmed39 s₀.vm) (hown : s₀.vm.findClass P.nm = some m.cls) (hna : n0 ≤ adr) (I : Inv P Z n0 adr mi c s h0 T.heap locs) {x pc : Nat} {w : Value} {ini : Bool} (hini : ini = true → meth.name = "<init>") (hg : pfld P x ini w s = some s')
    (hd : decode cd.code pc = .ok (.putfield x, 3)) {L : Array Slot} {r : List Value} :
    ∃ T' locs', Stand p l e R s₀ m args below meth cd T' locs' cells slots ∧ Inv P Z n0 adr mi c s' h0 T'.heap locs' ∧ ∀ t, Steps p.tables e below (T'.setTop (mkF m (pc + 3) L r)) t → Steps p.tables e below (T.setTop (mkF m pc L (w :: .ref adr :: r))) t := by
  obtain ⟨H, hFr, hK, hS⟩ := I
  obtain ⟨nF, hnF⟩ := LK.1.1
  unfold pfld at hg
  split at hg
  · cases hg
  · rename_i k e1
    split at hg
    · cases hg
    · rename_i fe e2
      split at hg
      · cases hg
      · rename_i e3
        have hL : (Cond.lays P.nm P.nm fe.1 fe.2.1).before a0 Z = true ∨ ((Cond.laysFinal P.nm P.nm fe.1 fe.2.1).before a0 Z = true ∧ P.nm = P.nm ∧ meth.name = "<init>") := by
          have q := LK.2.2.1 k fe e2
          split at q
          · rename_i e4
            refine Or.inr ⟨q, rfl, hini ?_⟩
            cases ini
            · exact absurd ⟨e4, rfl⟩ e3
            · rfl
          · exact Or.inl q
        have hp := LK.2.2.2.1 k fe e2
        have fin : ∀ {T' : State} {h' : Heap} {v' : Value}, Stand p l e R s₀ m args below meth cd T' (locs ++ [⟨adr, RoadKit.slotOf Z P.nm fe.1 fe.2.1⟩]) cells slots → T'.heap = h' → Wr T.heap h' adr (RoadKit.slotOf Z P.nm fe.1 fe.2.1) v' → v' = Fval adr c s' k fe →
            (∀ a b, (a ≠ 0 ∨ b ≠ k) → gI s' a b = gI s a b ∧ gL s' a b = gL s a b) → Inv P Z n0 adr mi c s' h0 T'.heap (locs ++ [⟨adr, RoadKit.slotOf Z P.nm fe.1 fe.2.1⟩]) := fun {T' h' v'} X' e4 W e5 e6 => by
          rw [e4]
          exact ⟨H.putFld LK e2 W e5 e6, Fr.snoc X' hFr hna, hK.wr W (Nat.le_refl _) (by omega), by rw [W.size]; exact hS⟩
        split at hg
        · rename_i z e4
          cases hg
          rw [e4] at hp
          obtain ⟨T', h', X', q1, W, st⟩ := putF X hx hZ hown (host := "") (Or.inl (LK.2.1 _ _ e1 _ e2)) Via.refl rfl (H.2.1 k fe e2) H.1 hL hnF hp (narrow_I z) rfl (g := mkF m pc L (.int z :: .ref adr :: r)) rfl rfl hd
          refine ⟨T', _, X', fin X' q1 W (by simp only [Fval, e4]; simp [gI_sI]) (fun a b hab => ?_), st⟩
          rw [gI_sI, gL_sI, if_neg (by omega)]; exact ⟨rfl, rfl⟩
        · rename_i z e4
          cases hg
          rw [e4] at hp
          obtain ⟨T', h', X', q1, W, st⟩ := putFN X hx hZ hown (LK.2.1 _ _ e1 _ e2) Via.refl rfl (H.2.1 k fe e2) H.1 hL hnF (v' := .int (z &&& 1)) hp rfl (fits_nar_bool z) (g := mkF m pc L (.int z :: .ref adr :: r)) rfl rfl hd
          refine ⟨T', _, X', fin X' q1 W (by simp only [Fval, e4]; simp [gI_sI]) (fun a b hab => ?_), st⟩
          rw [gI_sI, gL_sI, if_neg (by omega)]; exact ⟨rfl, rfl⟩
        · rename_i z e4
          cases hg
          rw [e4] at hp
          obtain ⟨T', h', X', q1, W, st⟩ := putF X hx hZ hown (host := "") (Or.inl (LK.2.1 _ _ e1 _ e2)) Via.refl rfl (H.2.1 k fe e2) H.1 hL hnF hp rfl rfl (g := mkF m pc L (.long z :: .ref adr :: r)) rfl rfl hd
          refine ⟨T', _, X', fin X' q1 W (by simp only [Fval, e4]; simp [gL_sL]) (fun a b hab => ?_), st⟩
          rw [gL_sL, gI_sL, if_neg (by omega)]; exact ⟨rfl, rfl⟩
        · cases hg
theorem lda_spec {tt : Nat} {st st' : List Value} (hl : lda P tt c st s = some st') : ∃ i a r N, st = .int i :: .ref (a + 1) :: r ∧ P.al[a]? = some (tt, N) ∧ a < c ∧ inb N i ∧ st' = elv tt s (a + 1) (ix i) :: r := by
  unfold lda at hl
  split at hl
  · rename_i i a r
    split at hl
    · rename_i t2 N e1
      split at hl
      · rename_i e2
        obtain ⟨rfl, e3⟩ := e2
        split at hl
        · rename_i e4; cases hl; exact ⟨i, a, r, N, rfl, e1, e3, e4, rfl⟩
        · cases hl
      · cases hl
    · cases hl
  · cases hl
theorem va_elv (ρ : Nat → Nat) (tt : Nat) (s : St) (j i : Nat) : va ρ (elv tt s j i) = elv tt s j i := by unfold elv; split <;> rfl
theorem st_lda (X : Stand p l e R s₀ m args below meth cd T locs cells slots) (hx : p.tables.exec = Jvm.exec) (hZ : Z.Warmed39 s₀.vm) (H : HRep P Z T.heap adr c s) {tt pc : Nat} {st st' : List Value} (hl : lda P tt c st s = some st') {i : Instr}
    (hi : (tt = 0 ∧ i = .iaload) ∨ (tt = 1 ∧ i = .baload) ∨ (tt = 2 ∧ i = .laload)) (hd : decode cd.code pc = .ok (i, 1)) {L : Array Slot} :
    ∀ t, Steps p.tables e below (T.setTop (mkF m (pc + 1) L (st'.map (va (adr + ·))))) t → Steps p.tables e below (T.setTop (mkF m pc L (st.map (va (adr + ·))))) t := by
  obtain ⟨j, a, r, N, rfl, e1, e2, e3, rfl⟩ := lda_spec hl
  obtain ⟨cl, A, hN, hv⟩ := H.2.2.1 a tt N e1 e2
  have hin : ¬ (j < 0 ∨ cl.slots.size ≤ j.toNatClampNeg) := by rw [hN]; exact inb_not e3
  have hat : cl.slots[j.toNatClampNeg]? = some (elv tt s (a + 1) (ix j)) := hv (ix j) (inb_ix e3)
  intro t q
  rw [List.map_cons, va_elv] at q
  rcases hi with ⟨rfl, rfl⟩ | ⟨rfl, rfl⟩ | ⟨rfl, rfl⟩
  · exact X.iaload hx A.1 (State.isArrayOf_alike hZ.alike A.2.1) A.2.2 hin hat (g := mkF m pc L (.int j :: .ref (adr + (a + 1)) :: r.map (va (adr + ·)))) rfl rfl hd t q
  · exact X.baloadBooleans hx A.1 (State.isArrayOf_alike hZ.alike A.2.1) A.2.2 hin hat (g := mkF m pc L (.int j :: .ref (adr + (a + 1)) :: r.map (va (adr + ·)))) rfl rfl hd t q
  · exact X.laload hx A.1 (State.isArrayOf_alike hZ.alike A.2.1) A.2.2 hin hat (g := mkF m pc L (.int j :: .ref (adr + (a + 1)) :: r.map (va (adr + ·)))) rfl rfl hd t q
theorem sta_spec {tt : Nat} {st st' : List Value} (hl : sta P tt c st s = some (st', s')) : ∃ v i a N, st = v :: .int i :: .ref (a + 1) :: st' ∧ P.al[a]? = some (tt, N) ∧ a < c ∧ inb N i ∧
    ((tt = 0 ∧ ∃ z, v = .int z ∧ s' = sI s (a + 1) (ix i) z) ∨ (tt = 1 ∧ ∃ z, v = .int z ∧ s' = sI s (a + 1) (ix i) (z &&& 1)) ∨ (tt = 2 ∧ ∃ z, v = .long z ∧ s' = sL s (a + 1) (ix i) z)) := by
  unfold sta at hl
  split at hl
  · rename_i v i a r
    split at hl
    · rename_i t2 N e1
      split at hl
      · rename_i e2
        obtain ⟨rfl, e3⟩ := e2
        split at hl
        · rename_i e4
          split at hl
          · cases hl; exact ⟨_, i, a, N, rfl, e1, e3, e4, Or.inl ⟨rfl, _, rfl, rfl⟩⟩
          · cases hl; exact ⟨_, i, a, N, rfl, e1, e3, e4, Or.inr (Or.inl ⟨rfl, _, rfl, rfl⟩)⟩
          · cases hl; exact ⟨_, i, a, N, rfl, e1, e3, e4, Or.inr (Or.inr ⟨rfl, _, rfl, rfl⟩)⟩
          · cases hl
        · cases hl
      · cases hl
    · cases hl
  · cases hl
theorem st_sta (X : Stand p l e R s₀ m args below meth cd T locs cells slots) (hx : p.tables.exec = Jvm.exec) (hZ : Z.Warmed39 s₀.vm) (hna : n0 ≤ adr) (I : Inv P Z n0 adr mi c s h0 T.heap locs) {tt pc : Nat} {st st' : List Value} (hl : sta P tt c st s = some (st', s')) {i : Instr}
    (hi : (tt = 0 ∧ i = .iastore) ∨ (tt = 1 ∧ i = .bastore) ∨ (tt = 2 ∧ i = .lastore)) (hd : decode cd.code pc = .ok (i, 1)) {L : Array Slot} :
    ∃ T' locs', Stand p l e R s₀ m args below meth cd T' locs' cells slots ∧ Inv P Z n0 adr mi c s' h0 T'.heap locs' ∧ ∀ t, Steps p.tables e below (T'.setTop (mkF m (pc + 1) L (st'.map (va (adr + ·))))) t → Steps p.tables e below (T.setTop (mkF m pc L (st.map (va (adr + ·))))) t := by
  obtain ⟨H, hFr, hK, hS⟩ := I
  obtain ⟨v, j, a, N, rfl, e1, e2, e3, e4⟩ := sta_spec hl
  obtain ⟨cl, A, hN, hv⟩ := H.2.2.1 a tt N e1 e2
  have hin : ¬ (j < 0 ∨ cl.slots.size ≤ j.toNatClampNeg) := by rw [hN]; exact inb_not e3
  have hal := (List.getElem?_eq_some_iff.mp e1).1
  have fin : ∀ {T' : State} {h' : Heap} {v' : Value}, Stand p l e R s₀ m args below meth cd T' (locs ++ [⟨adr + (a + 1), j.toNatClampNeg⟩]) cells slots → T'.heap = h' → Wr T.heap h' (adr + (a + 1)) j.toNatClampNeg v' → v' = elv tt s' (a + 1) (ix j) →
      (∀ x y, (x ≠ a + 1 ∨ y ≠ ix j) → gI s' x y = gI s x y ∧ gL s' x y = gL s x y) → Inv P Z n0 adr mi c s' h0 T'.heap (locs ++ [⟨adr + (a + 1), j.toNatClampNeg⟩]) := fun {T' h' v'} X' q1 W q2 q3 => by
    rw [q1]
    exact ⟨H.putArr e1 e2 (inb_ix e3) W q2 q3, Fr.snoc X' hFr (by omega), hK.wr W (by omega) (by omega), by rw [W.size]; exact hS⟩
  rcases e4 with ⟨rfl, z, rfl, rfl⟩ | ⟨rfl, z, rfl, rfl⟩ | ⟨rfl, z, rfl, rfl⟩
  · obtain ⟨-, rfl⟩ : (0 : Nat) = 0 ∧ i = .iastore := by rcases hi with q | q | q <;> first | exact q | (have := q.1; omega)
    obtain ⟨T', h', X', q1, W, st⟩ := stI X hx hZ rfl A hin (g := mkF m pc L (.int z :: .int j :: .ref (adr + (a + 1)) :: st'.map (va (adr + ·)))) rfl rfl hd
    refine ⟨T', _, X', fin X' q1 W (by simp [elv, gI_sI, ix]) (fun x y hxy => ?_), st⟩
    rw [gI_sI, gL_sI, if_neg (fun q => hxy.elim (fun z => z q.1) (fun z => z q.2))]; exact ⟨rfl, rfl⟩
  · obtain ⟨-, rfl⟩ : (1 : Nat) = 1 ∧ i = .bastore := by rcases hi with q | q | q <;> first | exact q | (have := q.1; omega)
    obtain ⟨T', h', X', q1, W, st⟩ := stZ X hx hZ rfl A hin (g := mkF m pc L (.int z :: .int j :: .ref (adr + (a + 1)) :: st'.map (va (adr + ·)))) rfl rfl hd
    refine ⟨T', _, X', fin X' q1 W (by simp [elv, gI_sI, ix, nar]) (fun x y hxy => ?_), st⟩
    rw [gI_sI, gL_sI, if_neg (fun q => hxy.elim (fun z => z q.1) (fun z => z q.2))]; exact ⟨rfl, rfl⟩
  · obtain ⟨-, rfl⟩ : (2 : Nat) = 2 ∧ i = .lastore := by rcases hi with q | q | q <;> first | exact q | (have := q.1; omega)
    obtain ⟨T', h', X', q1, W, st⟩ := stJ X hx hZ rfl A hin (g := mkF m pc L (.long z :: .int j :: .ref (adr + (a + 1)) :: st'.map (va (adr + ·)))) rfl rfl hd
    refine ⟨T', _, X', fin X' q1 W (by simp [elv, gL_sL, ix]) (fun x y hxy => ?_), st⟩
    rw [gL_sL, gI_sL, if_neg (fun q => hxy.elim (fun z => z q.1) (fun z => z q.2))]; exact ⟨rfl, rfl⟩
theorem newF_spec {t : ArrayType} {code : Cd} {pc : Nat} {st : List Value} (h : newF P t code pc c st = true) : ∃ n x k fe tt N, st = [.int n, .ref 0] ∧ fetch code (pc + 2) = some (.putfield x, 3) ∧ asc P.fx x = some k ∧ asc P.fs k = some fe ∧ P.al[c]? = some (tt, N) ∧
    fe.2.2.1 = c + 3 ∧ t = atOf tt ∧ 0 ≤ n.toInt ∧ n.toInt = N ∧ N < 1000000 := by
  unfold newF at h
  split at h
  · rename_i n
    split at h
    · rename_i x e1
      split at h
      · rename_i k e2
        split at h
        · rename_i fe e3
          split at h
          · rename_i tt N e4
            obtain ⟨q1, q2, q3, q4, q5⟩ := of_decide_eq_true h
            exact ⟨n, x, k, fe, tt, N, rfl, e1, e2, e3, e4, q1, q2, q3, q4, q5⟩
          · cases h
        · cases h
      · cases h
    · cases h
  · cases h
theorem ty_at {tt : Nat} (h : tt ≤ 2) : newarray.typeOf (atOf tt) = tyOf tt := by
  have : tt = 0 ∨ tt = 1 ∨ tt = 2 := by omega
  rcases this with rfl | rfl | rfl <;> rfl
theorem st_new (LK : LinkC P Z a0) {me : Me} (hme : asc P.ms 0 = some me) (hnm : meth.name = me.nm) (X : Stand p l e (cRoom P 0 me) s₀ m args below meth cd T locs (co 0 c) (zo P 0 c)) (hx : p.tables.exec = Jvm.exec) (hZ : Z.Warmed39 s₀.vm) (hown : s₀.vm.findClass P.nm = some m.cls) (hna : n0 ≤ adr) (hs0 : s₀.heap.size = adr + 1) (I : Inv P Z n0 adr 0 c s h0 T.heap locs)
    (hdec : ∀ pc i n, fetch me.cd pc = some (i, n) → decode cd.code pc = .ok (i, n) ∧ (isSw i = true ∨ n = ilen i)) {t : ArrayType} {pc : Nat} {st : List Value} (h : newF P t me.cd pc c st = true) (hd : decode cd.code pc = .ok (.newarray t, 2)) {L : Array Slot} :
    ∃ T' locs', Stand p l e (cRoom P 0 me) s₀ m args below meth cd T' locs' (co 0 (c + 1)) (zo P 0 (c + 1)) ∧ Inv P Z n0 adr 0 (c + 1) s h0 T'.heap locs' ∧ ∀ t, Steps p.tables e below (T'.setTop (mkF m (pc + 5) L [])) t → Steps p.tables e below (T.setTop (mkF m pc L (st.map (va (adr + ·))))) t := by
  obtain ⟨H, hFr, hK, hS⟩ := I
  obtain ⟨nF, hnF⟩ := LK.1.1
  obtain ⟨n, x, k, fe, tt, N, rfl, e1, e2, e3, e4, e5, rfl, e6, e7, e8⟩ := newF_spec h
  obtain ⟨htt, hac⟩ := LK.2.2.2.2.2.1 _ _ _ e4
  have hal := (List.getElem?_eq_some_iff.mp e4).1
  have hS' : T.heap.size = adr + 1 + c := hS
  have hty := ty_at htt
  have hini : meth.name = "<init>" := by rw [hnm]; exact LK.2.2.2.2.2.2.2.2.2.2.2.2 me hme
  have hLy : (Cond.lays P.nm P.nm fe.1 fe.2.1).before a0 Z = true ∨ ((Cond.laysFinal P.nm P.nm fe.1 fe.2.1).before a0 Z = true ∧ P.nm = P.nm ∧ meth.name = "<init>") := by
    have q := LK.2.2.1 k fe e3
    split at q
    · exact Or.inr ⟨q, rfl, hini⟩
    · exact Or.inl q
  have hzc := zs_succ P.al e4
  have hzm := zs_le P.al (c + 1)
  obtain ⟨T1, hp1, cA, X1, q1, E, A, st1⟩ := newP X hx hZ (aty := atOf tt) (by rw [hty]; exact hac) rfl (g := mkF m pc L [.int n, .ref adr]) rfl hd rfl (by rw [Int32.lt_iff_toInt_lt]; simp only [Int32.reduceToInt]; omega) (cap := N)
    (by simp only [Int32.toNatClampNeg]; omega) (by omega) (by simp only [co, cRoom, if_true]; omega) (by simp only [zo, cRoom, if_true]; omega)
  rw [hty] at A
  have hp := LK.2.2.2.1 k fe e3
  rw [e5] at hp
  obtain ⟨d2, -⟩ := hdec _ _ _ e1
  have hsz1 : hp1.size = adr + 1 + (c + 1) := by
    have hh : T1.heap.size ≤ s₀.heap.size + (c + 1) := X1.heapSize
    have g2 : T.heap.size < Array.size hp1 := A.lt
    rw [q1, hs0] at hh
    rw [hS'] at g2
    omega
  obtain ⟨T2, hp2, X2, q2, W, st2⟩ := putF X1 hx hZ hown (host := "") (Or.inl (LK.2.1 _ _ e2 _ e3)) Via.refl q1 ((H.2.1 k fe e3).ext E) (H.1.ext E) hLy hnF (v := .ref T.heap.size) hp rfl rfl (g := mkF m (pc + 2) L [.ref T.heap.size, .ref adr]) rfl rfl d2
  refine ⟨T2, _, by simpa [co, zo, hzc] using X2, ?_, fun t q => st1 _ (st2 _ q)⟩
  rw [q2]
  refine ⟨H.newArr LK e3 e5 e4 e6 e7 hS' E A W, Fr.snoc X2 hFr hna, ?_, by rw [W.size, hsz1]; simp⟩
  exact (hK.ext E (by rw [hsz1]; omega) (by omega)).wr W (Nat.le_refl _) (by omega)
end Steps
end Jvm.LM

namespace Jvm.LM
open Sem ClassFile Op Lib Jvm.Stand Jvm.Free Jvm.LawKit Jvm.RoadKit
theorem cret_spec {me : Me} {st : List Value} {i : Instr} {v : Option Value} (h : cret me st i = some v) :
    (∃ x, i = .ireturn ∧ st = [.int x] ∧ ((me.rt = 1 ∧ v = some (.int x)) ∨ (me.rt = 2 ∧ v = some (.int (x &&& 1))))) ∨ (∃ x, i = .lreturn ∧ st = [.long x] ∧ me.rt = 3 ∧ v = some (.long x)) ∨ (i = .return_ ∧ st = [] ∧ me.rt = 0 ∧ v = none) := by
  unfold cret at h
  split at h
  · split at h
    · rename_i x
      split at h
      · rename_i e1; cases h; exact Or.inl ⟨x, rfl, rfl, Or.inl ⟨e1, rfl⟩⟩
      · split at h
        · rename_i e1; cases h; exact Or.inl ⟨x, rfl, rfl, Or.inr ⟨e1, rfl⟩⟩
        · cases h
    · cases h
  · split at h
    · rename_i x
      split at h
      · rename_i e1; cases h; exact Or.inr (Or.inl ⟨x, rfl, rfl, e1, rfl⟩)
      · cases h
    · cases h
  · split at h
    · split at h
      · rename_i e1; cases h; exact Or.inr (Or.inr ⟨rfl, rfl, e1, rfl⟩)
      · cases h
    · cases h
  · cases h
section Ret
variable {p : Program} {l : Launch} {e : Env} {R : Room} {s₀ : State} {m : MethodId} {args : Array Value} {below : List Frame} {meth : Method} {cd : Code} {T : State} {locs : List Loc} {cells slots : Nat}
theorem retI' (X : Stand p l e R s₀ m args below meth cd T locs cells slots) (hx : p.tables.exec = Jvm.exec) {pc : Nat} {Ls : Array Slot} {z : Int32} {rest : List Value} (hret : meth.sig.returnType = some .int) (hd : decode cd.code pc = .ok (.ireturn, 1)) {fs : List Frame}
    (hl : ∀ (f : JFrame) (acts : List Action), f.method = m → f.locked = none → f.entered = [] → (doReturn e (T.setTop f) acts (some (.int z))).1 = T.setFrames fs) : Steps p.tables e below (T.setTop (mkF m pc Ls (.int z :: rest))) (T.setFrames fs) :=
  retOut X hx (t := .int) (i := .ireturn) hret rfl (Or.inl ⟨rfl, Or.inl rfl, z, rfl⟩) hd hl
theorem st_ret (X : Stand p l e R s₀ m args below meth cd T locs cells slots) (hx : p.tables.exec = Jvm.exec) {me : Me} (hret : meth.sig.returnType = retOf me.rt) (hlk : meth.locks = false) {ρ : Nat → Nat} {st : List Value} {i : Instr} {v : Option Value} (h : cret me st i = some v) {pc n : Nat} (hd : decode cd.code pc = .ok (i, n)) (hn : isSw i = true ∨ n = ilen i)
    {Q : Option Value → Heap → List Loc → Prop} (hQ : Q v T.heap locs) (hc : cells ≤ R.cells) (hs : slots ≤ R.slots) {L : Array Slot} : Don p e below s₀ R Q (T.setTop (mkF m pc L (st.map (va ρ)))) := by
  rcases cret_spec h with ⟨x, rfl, rfl, h1⟩ | ⟨x, rfl, rfl, h1, rfl⟩ | ⟨rfl, rfl, h1, rfl⟩
  · obtain rfl := hn.resolve_left Bool.false_ne_true
    rcases h1 with ⟨h1, rfl⟩ | ⟨h1, rfl⟩
    · rw [h1] at hret
      obtain ⟨fs, hr, hrun, hended, hW, hsame⟩ := X.leave (v := some (.int x)) (fun q => by rw [hret] at q; cases q) hlk
      exact ⟨_, _, retI' X hx hret hd hr, hrun, hended, _, _, rfl, hQ, ⟨_, rfl⟩, hW, hsame.mono hc hs⟩
    · rw [h1] at hret
      obtain ⟨fs, hr, hrun, hended, hW, hsame⟩ := X.leave (v := some (.int (x &&& 1))) (fun q => by rw [hret] at q; cases q) hlk
      exact ⟨_, _, retN X hx (t := .boolean) hret (Or.inl rfl) hd hr, hrun, hended, _, _, rfl, hQ, ⟨_, rfl⟩, hW, hsame.mono hc hs⟩
  · obtain rfl := hn.resolve_left Bool.false_ne_true
    rw [h1] at hret
    obtain ⟨fs, hr, hrun, hended, hW, hsame⟩ := X.leave (v := some (.long x)) (fun q => by rw [hret] at q; cases q) hlk
    exact ⟨_, _, retOut X hx (t := .long) (i := .lreturn) hret rfl (Or.inr (Or.inl ⟨rfl, rfl, x, rfl⟩)) hd hr, hrun, hended, _, _, rfl, hQ, ⟨_, rfl⟩, hW, hsame.mono hc hs⟩
  · obtain rfl := hn.resolve_left Bool.false_ne_true
    rw [h1] at hret
    obtain ⟨fs, hr, hrun, hended, hW, hsame⟩ := X.leave (v := none) (fun _ => rfl) hlk
    exact ⟨_, _, X.returnOut hx hret hd hr, hrun, hended, _, _, rfl, hQ, ⟨_, rfl⟩, hW, hsame.mono hc hs⟩
end Ret
theorem cret_va {me : Me} {st : List Value} {i : Instr} {v : Option Value} (h : cret me st i = some v) (ρ : Nat → Nat) : v.toList.map (va ρ) = v.toList := by
  rcases cret_spec h with ⟨x, rfl, rfl, ⟨-, rfl⟩ | ⟨-, rfl⟩⟩ | ⟨x, rfl, rfl, -, rfl⟩ | ⟨rfl, rfl, -, rfl⟩ <;> rfl
theorem nd_rev {ρ : Nat → Nat} {as : List Value} (h : nd as = true) : ∀ v ∈ (Value.ref 0 :: as.reverse), ∀ x, v ≠ .double x := fun v hv x e => by
  rcases List.mem_cons.mp hv with q | q
  · subst q; cases e
  · exact nd_spec h v (List.mem_reverse.mp q) x e
theorem pfld_va {P : Cl} {x : Nat} {ini : Bool} {w : Value} {s s1 : St} (hg : pfld P x ini w s = some s1) (ρ : Nat → Nat) : va ρ w = w := by
  cases w <;> first | rfl | skip
  exfalso
  unfold pfld at hg
  split at hg
  · cases hg
  · split at hg
    · cases hg
    · split at hg
      · cases hg
      · split at hg
        · rename_i q; cases q
        · rename_i q; cases q
        · rename_i q; cases q
        · cases hg
theorem cwalk {P : Cl} {Z : State} {a0 : Array Value} (LK : LinkC P Z a0) {n0 adr : Nat} (hna : n0 ≤ adr) : ∀ f mi me, asc P.ms mi = some me → CW P Z n0 adr f mi me := by
  intro f
  induction f with
  | zero =>
    intro mi me hme p l e s₀ m args below meth cd T locs h0 c pc ls st s v s' L hx hZ hown hnm hret hml hlk hs0 hdec hr
    cases hr
  | succ f ih =>
    intro mi me hme p l e s₀ m args below meth cd T locs h0 c pc ls st s v s' L hx hZ hown hnm hret hml hlk hs0 hdec hr X I hL hlen
    simp only [cexec] at hr
    split at hr
    · cases hr
    · rename_i i n hf
      obtain ⟨hd, hn⟩ := hdec pc i n hf
      have ihk := ih mi me hme
      have hsize : L.size = cd.maxLocals := by rw [hL.1, hlen, hml]
      obtain ⟨nF, hnF⟩ := LK.1.1
      unfold cstep at hr
      split at hr
      -- getfield
      · obtain rfl := hn.resolve_left Bool.false_ne_true
        split at hr
        · rename_i r
          split at hr
          · rename_i w hg
            obtain ⟨T', X', q1, st⟩ := st_get LK X hx hZ hown I.1 hg hd (L := L) (r := r.map (va (adr + ·)))
            exact Don.step st (ihk p l e s₀ m args below meth cd T' locs h0 c _ ls (w :: r) s v s' L hx hZ hown hnm hret hml hlk hs0 hdec hr X' (by rw [q1]; exact I) hL hlen)
          · cases hr
        · cases hr
      -- putfield
      · obtain rfl := hn.resolve_left Bool.false_ne_true
        split at hr
        · rename_i w r
          split at hr
          · rename_i s1 hg
            have hini : (mi == 0) = true → meth.name = "<init>" := fun q => by
              have q : mi = 0 := by simpa using q
              subst q; rw [hnm]; exact LK.2.2.2.2.2.2.2.2.2.2.2.2 me hme
            have hw : va (adr + ·) w = w := pfld_va hg _
            obtain ⟨T', locs', X', I', st⟩ := st_put LK X hx hZ hown hna I hini hg hd (L := L) (r := r.map (va (adr + ·)))
            refine Don.step (fun t q => ?_) (ihk p l e s₀ m args below meth cd T' locs' h0 c _ ls r s1 v s' L hx hZ hown hnm hret hml hlk hs0 hdec hr X' I' hL hlen)
            have := st t q
            rw [List.map_cons, hw]; exact this
          · cases hr
        · cases hr
      -- loads of arrays
      · obtain rfl := hn.resolve_left Bool.false_ne_true
        split at hr
        · rename_i st' hg
          exact Don.step (st_lda X hx hZ I.1 hg (Or.inl ⟨rfl, rfl⟩) hd) (ihk p l e s₀ m args below meth cd T locs h0 c _ ls st' s v s' L hx hZ hown hnm hret hml hlk hs0 hdec hr X I hL hlen)
        · cases hr
      · obtain rfl := hn.resolve_left Bool.false_ne_true
        split at hr
        · rename_i st' hg
          exact Don.step (st_lda X hx hZ I.1 hg (Or.inr (Or.inl ⟨rfl, rfl⟩)) hd) (ihk p l e s₀ m args below meth cd T locs h0 c _ ls st' s v s' L hx hZ hown hnm hret hml hlk hs0 hdec hr X I hL hlen)
        · cases hr
      · obtain rfl := hn.resolve_left Bool.false_ne_true
        split at hr
        · rename_i st' hg
          exact Don.step (st_lda X hx hZ I.1 hg (Or.inr (Or.inr ⟨rfl, rfl⟩)) hd) (ihk p l e s₀ m args below meth cd T locs h0 c _ ls st' s v s' L hx hZ hown hnm hret hml hlk hs0 hdec hr X I hL hlen)
        · cases hr
      -- stores into arrays
      · obtain rfl := hn.resolve_left Bool.false_ne_true
        split at hr
        · rename_i st' s1 hg
          obtain ⟨T', locs', X', I', st⟩ := st_sta X hx hZ hna I hg (Or.inl ⟨rfl, rfl⟩) hd (L := L)
          exact Don.step st (ihk p l e s₀ m args below meth cd T' locs' h0 c _ ls st' s1 v s' L hx hZ hown hnm hret hml hlk hs0 hdec hr X' I' hL hlen)
        · cases hr
      · obtain rfl := hn.resolve_left Bool.false_ne_true
        split at hr
        · rename_i st' s1 hg
          obtain ⟨T', locs', X', I', st⟩ := st_sta X hx hZ hna I hg (Or.inr (Or.inl ⟨rfl, rfl⟩)) hd (L := L)
          exact Don.step st (ihk p l e s₀ m args below meth cd T' locs' h0 c _ ls st' s1 v s' L hx hZ hown hnm hret hml hlk hs0 hdec hr X' I' hL hlen)
        · cases hr
      · obtain rfl := hn.resolve_left Bool.false_ne_true
        split at hr
        · rename_i st' s1 hg
          obtain ⟨T', locs', X', I', st⟩ := st_sta X hx hZ hna I hg (Or.inr (Or.inr ⟨rfl, rfl⟩)) hd (L := L)
          exact Don.step st (ihk p l e s₀ m args below meth cd T' locs' h0 c _ ls st' s1 v s' L hx hZ hown hnm hret hml hlk hs0 hdec hr X' I' hL hlen)
        · cases hr
      -- newarray and putfield
      · obtain rfl := hn.resolve_left Bool.false_ne_true
        split at hr
        · rename_i hg
          obtain ⟨rfl, hg⟩ := hg
          obtain ⟨T', locs', X', I', st⟩ := st_new LK hme hnm X hx hZ hown hna (hs0 rfl) I hdec hg hd (L := L)
          exact Don.step st (ihk p l e s₀ m args below meth cd T' locs' h0 (c + 1) _ ls [] s v s' L hx hZ hown hnm hret hml hlk hs0 hdec hr X' I' hL hlen)
        · cases hr
      -- constants
      · obtain rfl := hn.resolve_left Bool.false_ne_true
        split at hr
        · rename_i z hg
          exact Don.step (fun t q => X.ldcI hx hown (mv hZ (LK.2.2.2.2.2.2.1 _ _ hg)) (g := mkF m pc L (st.map (va (adr + ·)))) rfl hd q) (ihk p l e s₀ m args below meth cd T locs h0 c _ ls (.int z :: st) s v s' L hx hZ hown hnm hret hml hlk hs0 hdec hr X I hL hlen)
        · cases hr
      · obtain rfl := hn.resolve_left Bool.false_ne_true
        split at hr
        · rename_i z hg
          exact Don.step (fun t q => X.ldc2J hx hown (mv hZ (LK.2.2.2.2.2.2.1 _ _ hg)) (g := mkF m pc L (st.map (va (adr + ·)))) rfl hd q) (ihk p l e s₀ m args below meth cd T locs h0 c _ ls (.long z :: st) s v s' L hx hZ hown hnm hret hml hlk hs0 hdec hr X I hL hlen)
        · cases hr
      -- Object's constructor
      · obtain rfl := hn.resolve_left Bool.false_ne_true
        split at hr
        · rename_i r
          split at hr
          · rename_i hg
            obtain ⟨rfl, hg1, hg2⟩ := hg
            obtain ⟨w1, w2, w3⟩ := LK.2.2.2.2.2.2.2.1
            obtain ⟨T', X', q1, st⟩ := initO X hx hZ hown w1 w2 w3 rfl (g := mkF m pc L (.ref adr :: r.map (va (adr + ·)))) rfl hsize rfl hd hg1 (W := cats r) (by show 2 * 0 + _ ≤ _; rw [cats_va]; omega) hg2
            exact Don.step st (ihk p l e s₀ m args below meth cd T' locs h0 c _ ls r s v s' L hx hZ hown hnm hret hml hlk hs0 hdec hr X' (by rw [q1]; exact I) hL hlen)
          · cases hr
        · cases hr
      -- a call
      · obtain rfl := hn.resolve_left Bool.false_ne_true
        split at hr
        · cases hr
        · rename_i m' hm'
          split at hr
          · cases hr
          · rename_i me' hme'
            split at hr
            · rename_i r hst
              split at hr
              · rename_i hg
                obtain ⟨hg0, hg1, hg2, hg3⟩ := hg
                dsimp only at hr
                rw [hme'] at hr
                dsimp only at hr
                obtain ⟨bytes, ps, hcode, hdec', hpar, hpl⟩ := LK.2.2.2.2.2.2.2.2.1 m' me' hme'
                obtain ⟨w1, w2, w3⟩ := LK.2.2.2.2.2.2.2.2.2.1 _ _ hm' _ hme'
                by_cases hla : (layA (Value.ref 0 :: (st.take me'.na).reverse)).length ≤ me'.ml
                · rw [if_pos hla] at hr
                  cases hcl : cexec P f m' me' c 0 (lay (.ref 0 :: (st.take me'.na).reverse) me'.ml) [] s with
                  | none => rw [hcl] at hr; cases hr
                  | some vs =>
                    obtain ⟨w, s1⟩ := vs
                    rw [hcl] at hr
                    have hr' : cexec P f mi me c (pc + 3) ls (w.toList ++ r) s1 = some (v, s') := by cases w <;> exact hr
                    have hM := met_of_CW LK hme' (ih m' me' hme') l hdec' (as := .ref 0 :: (st.take me'.na).reverse) (nd_rev (ρ := id) hg3) hla hcl (fun q => absurd q hg0) I.1 (fun q => absurd q hg0)
                    have hB := backOf (R := cRoom P mi me) (p := p) (e := e) (below := below) (s := s₀) (args := args) (len := 3) (W := cats r) hM hZ hcode LK.1.2 hg1 hg2
                    have hdl : me'.na < st.length := by
                      have := congrArg List.length hst
                      simp at this; omega
                    have hsp : st = st.take me'.na ++ .ref 0 :: r := by rw [← hst, List.take_append_drop]
                    have hcell := I.1.1.cell
                    obtain ⟨cel, hc1, hc2⟩ := hcell
                    have key : ∃ (v' : Option Value) (U : State) (Lc : List Loc), Stand p l e (cRoom P mi me) s₀ m args below meth cd U (locs ++ Lc) (co mi c) (zo P mi c) ∧ QC P Z n0 adr m' c w s1 T.heap v' U.heap Lc ∧
                        Steps p.tables e below (T.setTop (mkF m pc L (st.map (va (adr + ·))))) (U.setTop (mkF m (pc + 3) L (v'.toList ++ r.map (va (adr + ·))))) := by
                      have hsm : st.map (va (adr + ·)) = ((st.take me'.na).reverse.map (va (adr + ·))).reverse ++ .ref adr :: r.map (va (adr + ·)) := by
                        conv => lhs; rw [hsp]
                        simp [va]
                      have hll : ∀ sig, parseMethodDescriptor (yOf P me').desc = some sig → ((st.take me'.na).reverse.map (va (adr + ·))).length = sig.parameters.length := lenOf hpar (by simp [hpl]; omega)
                      have hpre : ∀ vm₁, s₀.WarmedH vm₁ → ((Value.ref adr :: (st.take me'.na).reverse.map (va (adr + ·))).toArray = ((Value.ref 0 :: (st.take me'.na).reverse).map (va (adr + ·))).toArray ∧ (T.setVm vm₁).heap = T.heap ∧ co mi c + (cRoom P m' me').cells ≤ (cRoom P mi me).cells ∧ zo P mi c + (cRoom P m' me').slots ≤ (cRoom P mi me).slots) := fun vm₁ _ => by
                        refine ⟨by simp [va], rfl, ?_, ?_⟩
                        · simp only [co, cRoom, if_neg hg0]
                          have := I.1.2.2.2.2
                          split <;> omega
                        · simp only [zo, cRoom, if_neg hg0]
                          have := zs_le P.al c
                          split <;> omega
                      have hz1 : (cRoom P m' me').cells = 0 := by simp [cRoom, hg0]
                      have hz2 : (cRoom P m' me').slots = 0 := by simp [cRoom, hg0]
                      rcases w3 with w3 | ⟨w3, w4⟩
                      · obtain ⟨v', vm₁, ⟨U, lo, ce, sl⟩, -, X', ⟨Lc, hQ, l1, l2, l3⟩, stp⟩ := privCall X hx (y := yOf P me') hown (mv hZ w1) (mv hZ w2) (nF := nF) (mv hZ hnF) (Cond.privateMethod_at (mvP hZ w3 (args := args))) (mv hZ hcode) LK.2.2.2.2.2.2.2.2.2.2.2.1 hB (g := mkF m pc L (st.map (va (adr + ·)))) rfl hsize hc1 hc2 hll hsm (by show 2 * 0 + _ ≤ _; rw [cats_va]; omega) hd hpre
                        dsimp only [Pt.U, Pt.locs, Pt.cells, Pt.slots] at X' hQ l1 l2 l3 stp
                        subst l1 l2 l3
                        rw [hz1, hz2] at X'
                        exact ⟨v', U, Lc, X', hQ, stp⟩
                      · obtain ⟨cq, kq, qa, qb, qc⟩ := isOf hZ rfl I.1.1
                        obtain ⟨v', vm₁, ⟨U, lo, ce, sl⟩, -, X', ⟨Lc, hQ, l1, l2, l3⟩, stp⟩ := X.virtualBack hx (y := yOf P me') (z := yOf P me') hown (mv hZ w1) (mv hZ w3) (notFace_of_selects (args := #[]) (mv hZ w4)) (mv hZ w4) (mv hZ w2) LK.2.2.2.2.2.2.2.2.2.2.2.1 hB qa qc (g := mkF m pc L (st.map (va (adr + ·)))) rfl hsize (Steps.refl _) hll hsm (by show 2 * 0 + _ ≤ _; rw [cats_va]; omega) hd hpre
                        dsimp only [Pt.U, Pt.locs, Pt.cells, Pt.slots] at X' hQ l1 l2 l3 stp
                        subst l1 l2 l3
                        rw [hz1, hz2] at X'
                        exact ⟨v', U, Lc, X', hQ, stp⟩
                    obtain ⟨v', U, Lc, X', ⟨⟨rfl, hva⟩, hF', hH', hK', hS'⟩, stp⟩ := key
                    rw [if_neg hg0] at hH' hS'
                    refine Don.step (fun t q => stp.trans ?_) (ihk p l e s₀ m args below meth cd U (locs ++ Lc) h0 c _ ls (v'.toList ++ r) s1 v s' L hx hZ hown hnm hret hml hlk hs0 hdec hr' X' ⟨hH', I.2.1.app hF', I.2.2.1.trans hK', by rw [hS']; exact I.2.2.2⟩ hL hlen)
                    rw [List.map_append, hva] at q; exact q
                · rw [if_neg hla] at hr; cases hr
              · cases hr
            · cases hr
      -- the rest
      · split at hr
        · split at hr
          · cases hr
          · rename_i h1 hcf
            split at hr
            · rename_i w hw
              cases hr
              have hcf' : mi = 0 → c = P.al.length := fun q => Classical.byContradiction fun z => hcf ⟨q, z⟩
              have hA : HRep P Z T.heap adr (if mi = 0 then P.al.length else c) s := by
                by_cases q : mi = 0
                · rw [if_pos q, ← hcf' q]; exact I.1
                · rw [if_neg q]; exact I.1
              have hB : Array.size T.heap = if mi = 0 then adr + 1 + P.al.length else Array.size h0 := by
                rw [I.2.2.2]
                by_cases q : mi = 0
                · rw [if_pos q, if_pos q, ← hcf' q]
                · rw [if_neg q, if_neg q]
              have hC : co mi c ≤ (cRoom P mi me).cells := by
                simp only [co, cRoom]
                by_cases q : mi = 0
                · rw [if_pos q, if_pos q, ← hcf' q]; exact Nat.le_refl _
                · rw [if_neg q, if_neg q]; exact Nat.le_refl _
              have hD : zo P mi c ≤ (cRoom P mi me).slots := by
                simp only [zo, cRoom]
                by_cases q : mi = 0
                · rw [if_pos q, if_pos q]; exact zs_le _ _
                · rw [if_neg q, if_neg q]; exact Nat.le_refl _
              exact st_ret X hx hret hlk hw hd hn ⟨⟨rfl, cret_va hw⟩, I.2.1, hA, I.2.2.1, hB⟩ hC hD
            · cases hr
        · split at hr
          · rename_i pc' ls' st' hp
            obtain ⟨L', hL', hLs, st⟩ := pstep_sound X hx hp hd hn hL
            have hlen' : ls'.length = me.ml := by rw [← hL'.1, hLs, hL.1]; exact hlen
            exact Don.step st (ihk p l e s₀ m args below meth cd T locs h0 c _ ls' st' s v s' L' hx hZ hown hnm hret hml hlk hs0 hdec hr X I hL' hlen')
          · cases hr
end Jvm.LM

namespace Jvm.LM
open Sem ClassFile Op Lib Jvm.Stand Jvm.Free Jvm.LawKit Jvm.RoadKit
/-! the law's machine: several objects of the class, and one array of ints that it only reads -/
/-- class name, pool to own static method, pool to the class's method, pool index of the constructor, of the class, number of its fields, constants, methods, room: cells, slots -/
abbrev Lw := String × List (Nat × Nat) × List (Nat × Nat) × Nat × Nat × Nat × List (Nat × Value) × List (Nat × Me) × Nat × Nat
def Lw.nm (Q : Lw) : String := Q.1
def Lw.sx (Q : Lw) : List (Nat × Nat) := Q.2.1
def Lw.vx (Q : Lw) : List (Nat × Nat) := Q.2.2.1
def Lw.ci (Q : Lw) : Nat := Q.2.2.2.1
def Lw.cx (Q : Lw) : Nat := Q.2.2.2.2.1
def Lw.nf (Q : Lw) : Nat := Q.2.2.2.2.2.1
def Lw.kx (Q : Lw) : List (Nat × Value) := Q.2.2.2.2.2.2.1
def Lw.ms (Q : Lw) : List (Nat × Me) := Q.2.2.2.2.2.2.2.1
def Lw.rc (Q : Lw) : Nat := Q.2.2.2.2.2.2.2.2.1
def Lw.rs (Q : Lw) : Nat := Q.2.2.2.2.2.2.2.2.2
/-- the objects, how many are made, whether one more is being made -/
abbrev Wd := (Nat → St) × Nat × Bool
abbrev Sc := Option (Nat × (Nat → Int32))
abbrev Rw := Option (Option Value × Wd)
def nr : List Value → Bool
  | [] => true
  | .int _ :: r => nr r
  | .long _ :: r => nr r
  | _ => false
theorem nr_map {l : List Value} (h : nr l = true) (ρ : Nat → Nat) : l.map (va ρ) = l := by
  induction l with
  | nil => rfl
  | cons v r ih => cases v <;> first | (simp only [nr] at h; simp [va, ih h]; done) | (simp [nr] at h)
theorem nr_nd {l : List Value} (h : nr l = true) : nd l = true := by
  induction l with
  | nil => rfl
  | cons v r ih => cases v <;> first | (simp only [nr] at h; simp [nd, ih h]; done) | (simp [nr] at h)
def uo (w : Nat → St) (o : Nat) (s : St) : Nat → St := fun i => if i = o then s else w i
def lstep {α : Type} (P : Cl) (Q : Lw) (sc : Sc) (mi : Nat) (me : Me) (rt : Option Value → Wd → Option α) (cc : Nat → Nat → List Value → St → Rs) (cl : Nat → List Value → Wd → Rw) (k : Nat → Lv → List Value → Wd → Option α) (i : Instr) (pc : Nat) (ls : Lv) (st : List Value) (w : Wd) : Option α :=
  match i with
  | .iaload => match sc, st with
    | some (n, g), .int j :: .ref 0 :: r => if inb n j then k (pc + 1) ls (.int (g (ix j)) :: r) w else none
    | _, _ => none
  | .arraylength => match sc, st with
    | some (n, _), .ref 0 :: r => k (pc + 1) ls (.int (Int32.ofNat n) :: r) w
    | _, _ => none
  | .ldc x => match asc Q.kx x with | some (.int z) => k (pc + 2) ls (.int z :: st) w | _ => none
  | .ldc2_w x => match asc Q.kx x with | some (.long z) => k (pc + 3) ls (.long z :: st) w | _ => none
  | .new x => if mi = 0 ∧ x = Q.cx ∧ w.2.2 = false ∧ (w.2.1 + 1) * (P.al.length + 1) ≤ Q.rc ∧ (w.2.1 + 1) * (Q.nf + zs P.al P.al.length) ≤ Q.rs then
      k (pc + 3) ls (.ref (w.2.1 + 1) :: st) (uo w.1 w.2.1 s0, w.2.1, true) else none
  | .invokespecial x => match asc P.ms 0 with
    | none => none
    | some me' => match st.drop me'.na with
      | .ref (o + 1) :: r => if x = Q.ci ∧ mi = 0 ∧ o = w.2.1 ∧ w.2.2 = true ∧ me'.rf + 1 ≤ me.rf ∧ cats r + (me'.ml + 11) + me'.rl ≤ me.rl ∧ nr (st.take me'.na) = true ∧ (w.2.1 + 1) * (P.al.length + 1) ≤ Q.rc ∧ (w.2.1 + 1) * (Q.nf + zs P.al P.al.length) ≤ Q.rs then
          (match cc 0 0 (.ref 0 :: (st.take me'.na).reverse) (w.1 o) with
           | some (none, s') => k (pc + 3) ls r (uo w.1 o s', w.2.1 + 1, false)
           | _ => none) else none
      | _ => none
  | .invokevirtual x => match asc Q.vx x with
    | none => none
    | some m' => match asc P.ms m' with
      | none => none
      | some me' => match st.drop me'.na with
        | .ref (o + 1) :: r => if m' ≠ 0 ∧ o < w.2.1 ∧ me'.rf + 1 ≤ me.rf ∧ cats r + (me'.ml + 11) + me'.rl ≤ me.rl ∧ nr (st.take me'.na) = true then
            (match cc m' P.al.length (.ref 0 :: (st.take me'.na).reverse) (w.1 o) with
             | some (none, s') => k (pc + 3) ls r (uo w.1 o s', w.2.1, w.2.2)
             | some (some v, s') => k (pc + 3) ls (v :: r) (uo w.1 o s', w.2.1, w.2.2)
             | none => none) else none
        | _ => none
  | .invokestatic x => match asc Q.sx x with
    | none => none
    | some m' => match asc Q.ms m' with
      | none => none
      | some me' => if m' ≠ 0 ∧ me'.na ≤ st.length ∧ me'.rf + 1 ≤ me.rf ∧ cats (st.drop me'.na) + (me'.ml + 11) + me'.rl ≤ me.rl ∧ nd (st.take me'.na) = true then
          (match cl m' (st.take me'.na).reverse w with
           | some (none, w') => k (pc + 3) ls (st.drop me'.na) w'
           | some (some v, w') => k (pc + 3) ls (v :: st.drop me'.na) w'
           | none => none) else none
  | i => if isRet i = true then (match cret me st i with | some v => rt v w | none => none)
    else match pstep i pc ls st with | some (pc', ls', st') => k pc' ls' st' w | none => none
def lexec (P : Cl) (Q : Lw) (sc : Sc) : Nat → Nat → Me → Nat → Lv → List Value → Wd → Rw
  | 0, _, _, _, _, _, _ => none
  | f + 1, mi, me, pc, ls, st, w => match fetch me.cd pc with
    | none => none
    | some (i, _) => lstep P Q sc mi me (fun v w => some (v, w)) (ccall P f) (fun m' as w => match asc Q.ms m' with | some me' => (if (layA as).length ≤ me'.ml then lexec P Q sc f m' me' 0 (lay as me'.ml) [] w else none) | none => none) (lexec P Q sc f mi me) i pc ls st w
theorem lexec_cnt {P : Cl} {Q : Lw} {sc : Sc} : ∀ f mi me pc ls st w v w', mi ≠ 0 → lexec P Q sc f mi me pc ls st w = some (v, w') → w'.2 = w.2 := by
  intro f
  induction f with
  | zero => intro mi me pc ls st w v w' _ h; cases h
  | succ f ih =>
    intro mi me pc ls st w v w' h0 h
    simp only [lexec] at h
    split at h
    · cases h
    · unfold lstep at h
      split at h
      · split at h
        · split at h
          · exact ih _ _ _ _ _ _ _ _ h0 h
          · cases h
        · cases h
      · split at h
        · exact ih _ _ _ _ _ _ _ _ h0 h
        · cases h
      · split at h
        · exact ih _ _ _ _ _ _ _ _ h0 h
        · cases h
      · split at h
        · exact ih _ _ _ _ _ _ _ _ h0 h
        · cases h
      · split at h
        · rename_i q; exact absurd q.1 h0
        · cases h
      · split at h
        · cases h
        · split at h
          · split at h
            · rename_i q; exact absurd q.2.1 h0
            · cases h
          · cases h
      · split at h
        · cases h
        · split at h
          · cases h
          · split at h
            · split at h
              · split at h
                · exact (ih _ _ _ _ _ _ _ _ h0 h).trans rfl
                · exact (ih _ _ _ _ _ _ _ _ h0 h).trans rfl
                · cases h
              · cases h
            · cases h
      · split at h
        · cases h
        · split at h
          · cases h
          · rename_i me' hme'
            split at h
            · rename_i hg
              dsimp only at h
              rw [hme'] at h
              dsimp only at h
              split at h
              · rename_i w2 hc
                split at hc
                · exact (ih _ _ _ _ _ _ _ _ h0 h).trans (ih _ _ _ _ _ _ _ _ hg.1 hc)
                · cases hc
              · rename_i u w2 hc
                split at hc
                · exact (ih _ _ _ _ _ _ _ _ h0 h).trans (ih _ _ _ _ _ _ _ _ hg.1 hc)
                · cases hc
              · cases h
            · cases h
      · split at h
        · split at h
          · cases h; rfl
          · cases h
        · split at h
          · exact ih _ _ _ _ _ _ _ _ h0 h
          · cases h
def lcall (P : Cl) (Q : Lw) (sc : Sc) (f m' : Nat) (as : List Value) (w : Wd) : Rw := match asc Q.ms m' with | some me' => (if (layA as).length ≤ me'.ml then lexec P Q sc f m' me' 0 (lay as me'.ml) [] w else none) | none => none
def zOf (Q : Lw) (me : Me) : MethodName := ⟨Q.nm, me.nm, me.ds⟩
def LinkL (P : Cl) (Q : Lw) (Z : State) (a0 : Array Value) : Prop :=
  ((Cond.classLink Q.nm Q.cx P.nm).before a0 Z = true ∧ (Cond.instantiable P.nm Q.nf).before a0 Z = true) ∧
  (∀ me, asc P.ms 0 = some me → (Cond.methodLink Q.nm Q.ci (yOf P me)).before a0 Z = true ∧ (Cond.instanceMethod (yOf P me)).before a0 Z = true ∧ me.rt = 0) ∧
  (∀ x m', asc Q.vx x = some m' → ∀ me, asc P.ms m' = some me → (Cond.methodLink Q.nm x (yOf P me)).before a0 Z = true ∧ (Cond.declares (yOf P me)).before a0 Z = true ∧ (Cond.instanceMethod (yOf P me)).before a0 Z = true ∧ (Cond.selects P.nm (yOf P me) (yOf P me)).before a0 Z = true) ∧
  (∀ x m', asc Q.sx x = some m' → ∀ me, asc Q.ms m' = some me → (Cond.methodLink Q.nm x (zOf Q me)).before a0 Z = true ∧ (Cond.static (zOf Q me)).before a0 Z = true ∧ (Cond.initialized Q.nm).before a0 Z = true) ∧
  (∀ x v, asc Q.kx x = some v → match v with
    | .int z => (Cond.constant Q.nm x z).before a0 Z = true
    | .long z => (Cond.constantLong Q.nm x z).before a0 Z = true
    | _ => True) ∧
  (∀ mi me, asc Q.ms mi = some me → mi ≠ 0 → ∃ (bytes : ByteArray) (ps : List FieldType), (Cond.code (zOf Q me) bytes me.ml (retOf me.rt)).before a0 Z = true ∧
    (∀ pc i n, fetch me.cd pc = some (i, n) → decode bytes pc = .ok (i, n) ∧ (isSw i = true ∨ n = ilen i)) ∧ parseMethodDescriptor me.ds = some ⟨ps, retOf me.rt⟩ ∧ ps.length = me.na) ∧
  plainName Q.nm = true ∧ (Q.nm ≠ "java/lang/invoke/MethodHandle" ∧ Q.nm ≠ "java/lang/invoke/VarHandle")
def rho (a n0 K : Nat) : Nat → Nat
  | 0 => a
  | o + 1 => n0 + o * K
def SRep (Z : State) (h : Heap) (a n0 : Nat) (sc : Sc) : Prop :=
  match sc with
  | none => True
  | some (n, g) => a < n0 ∧ ∃ cl : Cell, Arr Z h a cl .int ∧ cl.slots.size = n ∧ ∀ i, i < n → cl.slots[i]? = some (.int (g i))
def LRep (P : Cl) (Z : State) (h : Heap) (a n0 : Nat) (sc : Sc) (w : Wd) : Prop :=
  SRep Z h a n0 sc ∧ (∀ o, o < w.2.1 → HRep P Z h (n0 + o * (P.al.length + 1)) P.al.length (w.1 o)) ∧
  (w.2.2 = true → HRep P Z h (n0 + w.2.1 * (P.al.length + 1)) 0 (w.1 w.2.1)) ∧ h.size = n0 + w.2.1 * (P.al.length + 1) + (if w.2.2 = true then 1 else 0)
def lRoom (Q : Lw) (mi : Nat) (me : Me) : Room := { frames := me.rf, cells := if mi = 0 then Q.rc else 0, slots := if mi = 0 then Q.rs else 0, locals := me.rl }
def QL (P : Cl) (Z : State) (a n0 : Nat) (sc : Sc) (v : Option Value) (w' : Wd) (u : Option Value) (h : Heap) (L : List Loc) : Prop :=
  (u = v ∧ ∀ ρ, u.toList.map (va ρ) = u.toList) ∧ Fr n0 L ∧ LRep P Z h a n0 sc w'
def lco (P : Cl) (mi : Nat) (w : Wd) : Nat := if mi = 0 then w.2.1 * (P.al.length + 1) + (if w.2.2 = true then 1 else 0) else 0
def lzo (P : Cl) (Q : Lw) (mi : Nat) (w : Wd) : Nat := if mi = 0 then w.2.1 * (Q.nf + zs P.al P.al.length) + (if w.2.2 = true then Q.nf else 0) else 0
def LW (P : Cl) (Q : Lw) (sc : Sc) (Z : State) (a n0 f mi : Nat) (me : Me) : Prop :=
  ∀ (p : Program) (l : Launch) (e : Env) (s₀ : State) (m : MethodId) (args : Array Value) (below : List Frame) (meth : Method) (cd : Code) (T : State) (locs : List Loc) (pc : Nat) (ls : Lv) (st : List Value) (w : Wd) (v : Option Value) (w' : Wd) (L : Array Slot),
    p.tables.exec = Jvm.exec → Z.Warmed39 s₀.vm → s₀.vm.findClass Q.nm = some m.cls → meth.sig.returnType = retOf me.rt → cd.maxLocals = me.ml → meth.locks = false → (mi = 0 → s₀.heap.size = n0) →
    (∀ pc i n, fetch me.cd pc = some (i, n) → decode cd.code pc = .ok (i, n) ∧ (isSw i = true ∨ n = ilen i)) →
    lexec P Q sc f mi me pc ls st w = some (v, w') →
    Stand p l e (lRoom Q mi me) s₀ m args below meth cd T locs (lco P mi w) (lzo P Q mi w) → w.2.1 * (P.al.length + 1) + (if w.2.2 = true then 1 else 0) ≤ (lRoom Q 0 me).cells → w.2.1 * (Q.nf + zs P.al P.al.length) + (if w.2.2 = true then Q.nf else 0) ≤ (lRoom Q 0 me).slots →
    LRep P Z T.heap a n0 sc w → Fr n0 locs → LR (rho a n0 (P.al.length + 1)) ls L → ls.length = me.ml →
    Don p e below s₀ (lRoom Q mi me) (QL P Z a n0 sc v w') (T.setTop (mkF m pc L (st.map (va (rho a n0 (P.al.length + 1))))))
theorem met_of_LW {P : Cl} {Q : Lw} {sc : Sc} {Z : State} {a0 : Array Value} (LL : LinkL P Q Z a0) {a n0 f mi : Nat} {me : Me} (hW : LW P Q sc Z a n0 f mi me) (hmi : mi ≠ 0) (l : Launch) {bytes : ByteArray}
    (hdec : ∀ pc i n, fetch me.cd pc = some (i, n) → decode bytes pc = .ok (i, n) ∧ (isSw i = true ∨ n = ilen i))
    {as : List Value} (hd : ∀ v ∈ as, ∀ x, v ≠ .double x) (hlen : (layA as).length ≤ me.ml) {w w' : Wd} {v : Option Value} {h : Heap} (hr : lexec P Q sc f mi me 0 (lay as me.ml) [] w = some (v, w'))
    (hc1 : w.2.1 * (P.al.length + 1) + (if w.2.2 = true then 1 else 0) ≤ Q.rc) (hc2 : w.2.1 * (Q.nf + zs P.al P.al.length) + (if w.2.2 = true then Q.nf else 0) ≤ Q.rs)
    (H : LRep P Z h a n0 sc w) :
    MetFree l (zOf Q me) (head1 [Cond.code (zOf Q me) bytes me.ml (retOf me.rt)] (lRoom Q mi me)) (fun b U => b = (as.map (va (rho a n0 (P.al.length + 1)))).toArray ∧ Z.Warmed39 U.vm ∧ U.heap = h) (fun _ _ _ _ _ => True)
      (fun _ U o U' => ∃ u L, o = .returned u ∧ QL P Z a n0 sc v w' u U'.heap L ∧ FrameEnd U o U' L (lRoom Q mi me).cells (lRoom Q mi me).slots) := by
  refine MetFree.of_bodySF (plainFor_of_name LL.2.2.2.2.2.2.1) hisR ?_
  intro p e s₀ m args below meth cd s₁ Bd hml hP hK
  obtain ⟨rfl, hZ, hh⟩ := hP
  have e0 : s₁.heap = h := by rw [← hh, Bd.state]; rfl
  have X0 : Stand p l e (lRoom Q mi me) s₀ m _ below meth cd s₁ [] 0 0 := Stand.of_body Bd
  have hown : s₀.vm.findClass Q.nm = some m.cls := findClass_of_methodNamed Bd.named
  have hk0 : lco P mi w = 0 := by simp [lco, hmi]
  have hz0 : lzo P Q mi w = 0 := by simp [lzo, hmi]
  have D := hW p l e s₀ m _ below meth cd s₁ [] 0 (lay as me.ml) [] w v w' _ Bd.exec hZ hown Bd.returns hml Bd.notSynchronized (fun q => absurd q hmi)
    (fun pc i n q => by rw [Bd.bytes]; exact hdec pc i n q) hr (by rw [hk0, hz0]; exact X0) (by simpa [lRoom] using hc1) (by simpa [lRoom] using hc2) (by rw [e0]; exact H) (Fr.nil n0) (lay_LR hd hlen) (lay_len hlen)
  obtain ⟨s₂, o, a1, a2, a3, u, L, a4, a5, a6⟩ := D
  exact ⟨s₂, o, a1, a2, a3, u, L, a4, a5, a6⟩
end Jvm.LM

namespace Jvm.LM
open Sem ClassFile Op Lib Jvm.Stand Jvm.Free Jvm.LawKit Jvm.RoadKit
theorem rng {a b K : Nat} (h : a < b) : a * K + K ≤ b * K := by
  have := Nat.mul_le_mul_right K (show a + 1 ≤ b from h)
  rw [Nat.succ_mul] at this; exact this
theorem SRep.congr {Z : State} {h h' : Heap} {a n0 : Nat} {sc : Sc} (H : SRep Z h a n0 sc) (e : ∀ x, x < n0 → h'[x]? = h[x]?) : SRep Z h' a n0 sc := by
  unfold SRep at H ⊢
  split
  · trivial
  · obtain ⟨h1, cl, ⟨q1, q2⟩, q3⟩ := H
    exact ⟨h1, cl, ⟨by rw [e a h1]; exact q1, q2⟩, q3⟩
/-- one object has moved, the others stand -/
theorem LRep.call {P : Cl} {Z : State} {h h' : Heap} {a n0 o : Nat} {sc : Sc} {w : Wd} {s' : St} (H : LRep P Z h a n0 sc w) (ho : o < w.2.1) (K : Kp h h' (n0 + o * (P.al.length + 1)) P.al.length) (hs : h'.size = h.size) (H' : HRep P Z h' (n0 + o * (P.al.length + 1)) P.al.length s') :
    LRep P Z h' a n0 sc (uo w.1 o s', w.2.1, w.2.2) := by
  obtain ⟨h1, h2, h3, h4⟩ := H
  refine ⟨h1.congr fun x hx => K x (Or.inl (by omega)), fun o' ho' => ?_, fun q => ?_, by rw [hs]; exact h4⟩
  · by_cases e : o' = o
    · subst e; simpa [uo] using H'
    · have := (h2 o' ho').congr (h' := h') fun x hx1 hx2 => K x (by
        rcases Nat.lt_or_gt_of_ne e with q | q
        · have := rng (K := P.al.length + 1) q; omega
        · have := rng (K := P.al.length + 1) q; omega)
      simpa [uo, e] using this
  · have e : w.2.1 ≠ o := by omega
    have := (h3 q).congr (h' := h') fun x hx1 hx2 => K x (by have := rng (K := P.al.length + 1) ho; omega)
    simpa [uo, e] using this
theorem ar1 {x k r y : Nat} (e : y = x + (k + 1)) (h : y ≤ r) : x + 1 + k ≤ r := by omega
theorem ar3 {x k y : Nat} (h : y = x + (k + 1)) : y + 0 = x + 1 + k := by omega
theorem ar4 {x f z y : Nat} (h : y = x + (f + z)) : y + 0 = x + f + z := by omega
theorem ar5 {x f z r y : Nat} (e : y = x + (f + z)) (h : y ≤ r) : x + f + z ≤ r := by omega
theorem ar6 {n x k y : Nat} (h : y = x + (k + 1)) : n + x + 1 + k = n + y + 0 := by omega
theorem lwalk {P : Cl} {Q : Lw} {sc : Sc} {Z : State} {a0 : Array Value} (LK : LinkC P Z a0) (LL : LinkL P Q Z a0) {a n0 : Nat} : ∀ f mi me, asc Q.ms mi = some me → LW P Q sc Z a n0 f mi me := by
  intro f
  induction f with
  | zero =>
    intro mi me hme p l e s₀ m args below meth cd T locs pc ls st w v w' L hx hZ hown hret hml hlk hs0 hdec hr
    cases hr
  | succ f ih =>
    intro mi me hme p l e s₀ m args below meth cd T locs pc ls st w v w' L hx hZ hown hret hml hlk hs0 hdec hr X hc1 hc2 I hFr hL hlen
    simp only [lexec] at hr
    split at hr
    · cases hr
    · rename_i i n hf
      obtain ⟨hd, hn⟩ := hdec pc i n hf
      have ihk := ih mi me hme
      have hsize : L.size = cd.maxLocals := by rw [hL.1, hlen, hml]
      unfold lstep at hr
      split at hr
      -- iaload
      · obtain rfl := hn.resolve_left Bool.false_ne_true
        split at hr
        · rename_i N g j r
          split at hr
          · rename_i hin
            obtain ⟨ha, cl, A, hN, hv⟩ : SRep Z T.heap a n0 (some (N, g)) := I.1
            refine Don.step (fun t q => ?_) (ihk p l e s₀ m args below meth cd T locs _ ls (.int (g (ix j)) :: r) w v w' L hx hZ hown hret hml hlk hs0 hdec hr X hc1 hc2 I hFr hL hlen)
            exact X.iaload hx A.1 (State.isArrayOf_alike hZ.alike A.2.1) A.2.2 (by rw [hN]; exact inb_not hin) (hv (ix j) (inb_ix hin)) (g := mkF m pc L (.int j :: .ref a :: r.map (va (rho a n0 (P.al.length + 1))))) rfl rfl hd t q
          · cases hr
        · cases hr
      -- arraylength
      · obtain rfl := hn.resolve_left Bool.false_ne_true
        split at hr
        · rename_i N g r
          obtain ⟨ha, cl, A, hN, hv⟩ : SRep Z T.heap a n0 (some (N, g)) := I.1
          refine Don.step (fun t q => ?_) (ihk p l e s₀ m args below meth cd T locs _ ls (.int (Int32.ofNat N) :: r) w v w' L hx hZ hown hret hml hlk hs0 hdec hr X hc1 hc2 I hFr hL hlen)
          exact X.arraylength hx A.1 (State.isArrayOf_alike hZ.alike A.2.1) (g := mkF m pc L (.ref a :: r.map (va (rho a n0 (P.al.length + 1))))) rfl rfl hd t (by rw [hN]; exact q)
        · cases hr
      -- constants
      · obtain rfl := hn.resolve_left Bool.false_ne_true
        split at hr
        · rename_i z hg
          exact Don.step (fun t q => X.ldcI hx hown (mv hZ (LL.2.2.2.2.1 _ _ hg)) (g := mkF m pc L (st.map (va (rho a n0 (P.al.length + 1))))) rfl hd q) (ihk p l e s₀ m args below meth cd T locs _ ls (.int z :: st) w v w' L hx hZ hown hret hml hlk hs0 hdec hr X hc1 hc2 I hFr hL hlen)
        · cases hr
      · obtain rfl := hn.resolve_left Bool.false_ne_true
        split at hr
        · rename_i z hg
          exact Don.step (fun t q => X.ldc2J hx hown (mv hZ (LL.2.2.2.2.1 _ _ hg)) (g := mkF m pc L (st.map (va (rho a n0 (P.al.length + 1))))) rfl hd q) (ihk p l e s₀ m args below meth cd T locs _ ls (.long z :: st) w v w' L hx hZ hown hret hml hlk hs0 hdec hr X hc1 hc2 I hFr hL hlen)
        · cases hr
      -- new
      · obtain rfl := hn.resolve_left Bool.false_ne_true
        split at hr
        · rename_i hg
          obtain ⟨rfl, rfl, hp, hg1, hg2⟩ := hg
          obtain ⟨os, cnt, pend⟩ := w
          dsimp only at hp hg1 hg2 hr
          subst hp
          have hk : lco P 0 (os, cnt, false) = cnt * (P.al.length + 1) := by simp [lco]
          have hz : lzo P Q 0 (os, cnt, false) = cnt * (Q.nf + zs P.al P.al.length) := by simp [lzo]
          have m1 : (cnt + 1) * (P.al.length + 1) = cnt * (P.al.length + 1) + (P.al.length + 1) := Nat.succ_mul ..
          have m2 : (cnt + 1) * (Q.nf + zs P.al P.al.length) = cnt * (Q.nf + zs P.al P.al.length) + (Q.nf + zs P.al P.al.length) := Nat.succ_mul ..
          rw [hk, hz] at X
          obtain ⟨T', h', X', q1, E, A, D, -, st1⟩ := newO X hx hZ hown LL.1.1 LL.1.2 LK.1.2 rfl (g := mkF m pc L (st.map (va (rho a n0 (P.al.length + 1))))) rfl hd (by simp only [lRoom, if_true]; omega) (by simp only [lRoom, if_true]; omega)
          obtain ⟨i1, i2, i3, i4⟩ := I
          have hsz : T.heap.size = n0 + cnt * (P.al.length + 1) := by simpa using i4
          have hsz' : h'.size = n0 + cnt * (P.al.length + 1) + 1 := by
            have g1 : T'.heap.size ≤ s₀.heap.size + (cnt * (P.al.length + 1) + 1) := X'.heapSize
            have g2 : T.heap.size < Array.size h' := A.lt
            rw [q1, hs0 rfl] at g1
            rw [hsz] at g2
            omega
          have same : ∀ x, x < T.heap.size → h'[x]? = T.heap[x]? := fun x hx => by
            obtain ⟨cc, hcc⟩ : ∃ cc, T.heap[x]? = some cc := ⟨T.heap[x], Array.getElem?_eq_getElem hx⟩
            rw [hcc]; exact E.2 _ _ hcc
          have I' : LRep P Z T'.heap a n0 sc (uo os cnt s0, cnt, true) := by
            rw [q1]
            refine ⟨i1.congr fun x hx => same x (by omega), fun o ho => ?_, fun _ => ?_, by simpa using hsz'⟩
            · have := (i2 o ho).congr (h' := h') fun x hx1 hx2 => same x (by have := rng (K := P.al.length + 1) (show o < cnt from ho); omega)
              simpa [uo, show o ≠ cnt from Nat.ne_of_lt ho] using this
            · simp only [uo, if_true]
              rw [hsz] at A D
              refine ⟨A, fun k fe hk => ?_, fun j tt N hj hc => absurd hc (Nat.not_lt_zero _), fun j i hj => ⟨rfl, rfl⟩, Nat.zero_le _⟩
              have q := D (laid_of LK hk) (LK.2.2.2.1 k fe hk)
              have e2 : Fval (n0 + cnt * (P.al.length + 1)) 0 s0 k fe = defaultValue (fkTy P fe.2.2.1) := by
                simp only [Fval]; split
                · rename_i e3; rw [e3]; rfl
                · rename_i e3; rw [e3]; rfl
                · rename_i e3; rw [e3]; rfl
                · rename_i e3; rw [e3]; rfl
              rw [e2]; exact q
          refine Don.step (fun t q => st1 t ?_) (ihk p l e s₀ m args below meth cd T' locs _ ls (.ref (cnt + 1) :: st) _ v w' L hx hZ hown hret hml hlk hs0 hdec hr (by simpa [lco, lzo] using X') (by simp only [lRoom, if_true]; omega) (by simp only [lRoom, if_true]; omega) I' hFr hL hlen)
          rw [hsz]; exact q
        · cases hr
      -- the constructor
      · obtain rfl := hn.resolve_left Bool.false_ne_true
        split at hr
        · cases hr
        · rename_i me' hme'
          split at hr
          · rename_i o r hst
            split at hr
            · rename_i hg
              obtain ⟨rfl, rfl, hgo, hp, hg1, hg2, hg3, hg4, hg5⟩ := hg
              obtain ⟨os, cnt, pend⟩ := w
              dsimp only at hgo hp hg1 hg2 hr hg4 hg5
              subst hp hgo
              obtain ⟨bytes, ps, hcode, hdec', hpar, hpl⟩ := LK.2.2.2.2.2.2.2.2.1 0 me' hme'
              obtain ⟨w1, w2, hrt⟩ := LL.2.1 me' hme'
              have hcode' := hcode
              rw [hrt] at hcode'
              have hini := LK.2.2.2.2.2.2.2.2.2.2.2.2 me' hme'
              have m1 : (o + 1) * (P.al.length + 1) = o * (P.al.length + 1) + (P.al.length + 1) := Nat.succ_mul ..
              have m2 : (o + 1) * (Q.nf + zs P.al P.al.length) = o * (Q.nf + zs P.al P.al.length) + (Q.nf + zs P.al P.al.length) := Nat.succ_mul ..
              simp only [ccall, hme'] at hr
              by_cases hla : (layA (Value.ref 0 :: (st.take me'.na).reverse)).length ≤ me'.ml
              · rw [if_pos hla] at hr
                cases hcl : cexec P f 0 me' 0 0 (lay (.ref 0 :: (st.take me'.na).reverse) me'.ml) [] (os o) with
                | none => rw [hcl] at hr; cases hr
                | some vs =>
                  obtain ⟨u, s1⟩ := vs
                  rw [hcl] at hr
                  cases u with
                  | some u => cases hr
                  | none =>
                    dsimp only at hr
                    obtain ⟨i1, i2, i3, i4⟩ := I
                    have hsz : T.heap.size = n0 + o * (P.al.length + 1) + 1 := by simpa using i4
                    have hM := met_of_CW LK hme' (cwalk LK (n0 := n0) (adr := n0 + o * (P.al.length + 1)) (Nat.le_add_right _ _) f 0 me' hme') l hdec' (as := .ref 0 :: (st.take me'.na).reverse) (nd_rev (ρ := id) (nr_nd hg3)) hla hcl (fun _ => rfl) (i3 rfl) (fun _ => hsz)
                    have hB := backOf (R := lRoom Q 0 me) (p := p) (e := e) (below := below) (s := s₀) (args := args) (len := 3) (W := cats r) hM hZ hcode LK.1.2 hg1 hg2
                    have hdl : me'.na < st.length := by
                      have := congrArg List.length hst
                      simp at this; omega
                    have hsp : st = st.take me'.na ++ .ref (o + 1) :: r := by rw [← hst, List.take_append_drop]
                    have hrv : ∀ ρ : Nat → Nat, (st.take me'.na).reverse.map (va ρ) = (st.take me'.na).reverse := fun ρ => by rw [List.map_reverse, nr_map hg3]
                    have hsm : st.map (va (rho a n0 (P.al.length + 1))) = ((st.take me'.na).reverse).reverse ++ .ref (n0 + o * (P.al.length + 1)) :: r.map (va (rho a n0 (P.al.length + 1))) := by
                      conv => lhs; rw [hsp]
                      rw [List.map_append, nr_map hg3]; simp [va, rho]
                    have hll : ∀ sig, parseMethodDescriptor (yOf P me').desc = some sig → ((st.take me'.na).reverse).length = sig.parameters.length := lenOf hpar (by simp [hpl]; omega)
                    have hk : lco P 0 (os, o, true) = o * (P.al.length + 1) + 1 := by simp [lco]
                    have hz : lzo P Q 0 (os, o, true) = o * (Q.nf + zs P.al P.al.length) + Q.nf := by simp [lzo]
                    rw [hk, hz] at X
                    have hpre : ∀ vm₁, s₀.WarmedH vm₁ → ((Value.ref (n0 + o * (P.al.length + 1)) :: (st.take me'.na).reverse).toArray = ((Value.ref 0 :: (st.take me'.na).reverse).map (va ((n0 + o * (P.al.length + 1)) + ·))).toArray ∧ (T.setVm vm₁).heap = T.heap ∧ o * (P.al.length + 1) + 1 + (cRoom P 0 me').cells ≤ (lRoom Q 0 me).cells ∧ o * (Q.nf + zs P.al P.al.length) + Q.nf + (cRoom P 0 me').slots ≤ (lRoom Q 0 me).slots) := fun vm₁ _ => by
                      refine ⟨by rw [List.map_cons, hrv]; rfl, rfl, ?_, ?_⟩
                      · show o * (P.al.length + 1) + 1 + P.al.length ≤ Q.rc
                        exact ar1 m1 hg4
                      · show o * (Q.nf + zs P.al P.al.length) + Q.nf + zs P.al P.al.length ≤ Q.rs
                        exact ar5 m2 hg5
                    obtain ⟨v', vm₁, ⟨U, lo, ce, sl⟩, -, X', ⟨Lc, hQ, l1, l2, l3⟩, stp⟩ := X.specialBack hx (y := yOf P me') hini hown (mv hZ w1) (mv hZ w2) (mv hZ hcode') LK.2.2.2.2.2.2.2.2.2.2.2.1 hB (g := mkF m pc L (st.map (va (rho a n0 (P.al.length + 1))))) rfl hsize (Steps.refl _) hll hsm (by show 2 * 0 + _ ≤ _; rw [cats_va]; omega) hd hpre
                    dsimp only [Pt.U, Pt.locs, Pt.cells, Pt.slots] at X' hQ l1 l2 l3 stp
                    subst l1 l2 l3
                    obtain ⟨⟨rfl, -⟩, hF', hH', hK', hS'⟩ := hQ
                    rw [if_pos rfl] at hH' hS'
                    have I' : LRep P Z U.heap a n0 sc (uo os o s1, o + 1, false) := by
                      refine ⟨i1.congr fun x hx => hK' x (Or.inl (by omega)), fun o' ho' => ?_, fun q => by simp at q, by rw [hS']; show n0 + o * (P.al.length + 1) + 1 + P.al.length = n0 + (o + 1) * (P.al.length + 1) + 0; exact ar6 m1⟩
                      by_cases e2 : o' = o
                      · subst e2; simpa [uo] using hH'
                      · have ho2 : o' < o := by have : o' < o + 1 := ho'; omega
                        have := (i2 o' ho2).congr (h' := U.heap) fun x hx1 hx2 => hK' x (by have := rng (K := P.al.length + 1) ho2; omega)
                        simpa [uo, e2] using this
                    refine Don.step (fun t q => stp.trans q) (ihk p l e s₀ m args below meth cd U (locs ++ Lc) _ ls r _ v w' L hx hZ hown hret hml hlk hs0 hdec hr ?_ (by show (o + 1) * (P.al.length + 1) + 0 ≤ Q.rc; omega) (by show (o + 1) * (Q.nf + zs P.al P.al.length) + 0 ≤ Q.rs; omega) I' (hFr.app hF') hL hlen)
                    have h1 : lco P 0 (uo os o s1, o + 1, false) = o * (P.al.length + 1) + 1 + (cRoom P 0 me').cells := by
                      show (o + 1) * (P.al.length + 1) + 0 = o * (P.al.length + 1) + 1 + P.al.length
                      exact ar3 m1
                    have h2 : lzo P Q 0 (uo os o s1, o + 1, false) = o * (Q.nf + zs P.al P.al.length) + Q.nf + (cRoom P 0 me').slots := by
                      show (o + 1) * (Q.nf + zs P.al P.al.length) + 0 = o * (Q.nf + zs P.al P.al.length) + Q.nf + zs P.al P.al.length
                      exact ar4 m2
                    rw [h1, h2]; exact X'
              · rw [if_neg hla] at hr; cases hr
            · cases hr
          · cases hr
      -- a method of the class
      · obtain rfl := hn.resolve_left Bool.false_ne_true
        split at hr
        · cases hr
        · rename_i m' hm'
          split at hr
          · cases hr
          · rename_i me' hme'
            split at hr
            · rename_i o r hst
              split at hr
              · rename_i hg
                obtain ⟨hg0, hgo, hg1, hg2, hg3⟩ := hg
                obtain ⟨bytes, ps, hcode, hdec', hpar, hpl⟩ := LK.2.2.2.2.2.2.2.2.1 m' me' hme'
                obtain ⟨w1, w2, w3, w4⟩ := LL.2.2.1 _ _ hm' me' hme'
                simp only [ccall, hme'] at hr
                by_cases hla : (layA (Value.ref 0 :: (st.take me'.na).reverse)).length ≤ me'.ml
                · rw [if_pos hla] at hr
                  cases hcl : cexec P f m' me' P.al.length 0 (lay (.ref 0 :: (st.take me'.na).reverse) me'.ml) [] (w.1 o) with
                  | none => rw [hcl] at hr; cases hr
                  | some vs =>
                    obtain ⟨u, s1⟩ := vs
                    rw [hcl] at hr
                    have hr' : lexec P Q sc f mi me (pc + 3) ls (u.toList ++ r) (uo w.1 o s1, w.2.1, w.2.2) = some (v, w') := by cases u <;> exact hr
                    have hM := met_of_CW LK hme' (cwalk LK (n0 := n0) (adr := n0 + o * (P.al.length + 1)) (Nat.le_add_right _ _) f m' me' hme') l hdec' (as := .ref 0 :: (st.take me'.na).reverse) (nd_rev (ρ := id) (nr_nd hg3)) hla hcl (fun q => absurd q hg0) (I.2.1 o hgo) (fun q => absurd q hg0)
                    have hB := backOf (R := lRoom Q mi me) (p := p) (e := e) (below := below) (s := s₀) (args := args) (len := 3) (W := cats r) hM hZ hcode LK.1.2 hg1 hg2
                    have hdl : me'.na < st.length := by
                      have := congrArg List.length hst
                      simp at this; omega
                    have hsp : st = st.take me'.na ++ .ref (o + 1) :: r := by rw [← hst, List.take_append_drop]
                    have hrv : ∀ ρ : Nat → Nat, (st.take me'.na).reverse.map (va ρ) = (st.take me'.na).reverse := fun ρ => by rw [List.map_reverse, nr_map hg3]
                    have hsm : st.map (va (rho a n0 (P.al.length + 1))) = ((st.take me'.na).reverse).reverse ++ .ref (n0 + o * (P.al.length + 1)) :: r.map (va (rho a n0 (P.al.length + 1))) := by
                      conv => lhs; rw [hsp]
                      rw [List.map_append, nr_map hg3]; simp [va, rho]
                    have hll : ∀ sig, parseMethodDescriptor (yOf P me').desc = some sig → ((st.take me'.na).reverse).length = sig.parameters.length := lenOf hpar (by simp [hpl]; omega)
                    have hz1 : (cRoom P m' me').cells = 0 := by simp [cRoom, hg0]
                    have hz2 : (cRoom P m' me').slots = 0 := by simp [cRoom, hg0]
                    have hpre : ∀ vm₁, s₀.WarmedH vm₁ → ((Value.ref (n0 + o * (P.al.length + 1)) :: (st.take me'.na).reverse).toArray = ((Value.ref 0 :: (st.take me'.na).reverse).map (va ((n0 + o * (P.al.length + 1)) + ·))).toArray ∧ (T.setVm vm₁).heap = T.heap ∧ lco P mi w + (cRoom P m' me').cells ≤ (lRoom Q mi me).cells ∧ lzo P Q mi w + (cRoom P m' me').slots ≤ (lRoom Q mi me).slots) := fun vm₁ _ => by
                      refine ⟨by rw [List.map_cons, hrv]; rfl, rfl, ?_, ?_⟩
                      · rw [hz1]; simp only [lco, lRoom] at *; split
                        · simpa using hc1
                        · exact Nat.le_refl _
                      · rw [hz2]; simp only [lzo, lRoom] at *; split
                        · simpa using hc2
                        · exact Nat.le_refl _
                    obtain ⟨cq, kq, qa, qb, qc⟩ := isOf hZ rfl (I.2.1 o hgo).1
                    obtain ⟨v', vm₁, ⟨U, lo, ce, sl⟩, -, X', ⟨Lc, hQ, l1, l2, l3⟩, stp⟩ := X.virtualBack hx (y := yOf P me') (z := yOf P me') hown (mv hZ w1) (mv hZ w2) (notFace_of_selects (args := #[]) (mv hZ w4)) (mv hZ w4) (mv hZ w3) LK.2.2.2.2.2.2.2.2.2.2.2.1 hB qa qc (g := mkF m pc L (st.map (va (rho a n0 (P.al.length + 1))))) rfl hsize (Steps.refl _) hll hsm (by show 2 * 0 + _ ≤ _; rw [cats_va]; omega) hd hpre
                    dsimp only [Pt.U, Pt.locs, Pt.cells, Pt.slots] at X' hQ l1 l2 l3 stp
                    subst l1 l2 l3
                    obtain ⟨⟨rfl, hva⟩, hF', hH', hK', hS'⟩ := hQ
                    rw [if_neg hg0] at hH' hS'
                    rw [hz1, hz2] at X'
                    refine Don.step (fun t q => stp.trans ?_) (ihk p l e s₀ m args below meth cd U (locs ++ Lc) _ ls (v'.toList ++ r) _ v w' L hx hZ hown hret hml hlk hs0 hdec hr' X' hc1 hc2 (I.call hgo hK' hS' hH') (hFr.app hF') hL hlen)
                    rw [List.map_append, hva] at q; exact q
                · rw [if_neg hla] at hr; cases hr
              · cases hr
            · cases hr
      -- a static method of the law
      · obtain rfl := hn.resolve_left Bool.false_ne_true
        split at hr
        · cases hr
        · rename_i m' hm'
          split at hr
          · cases hr
          · rename_i me' hme'
            split at hr
            · rename_i hg
              obtain ⟨hg0, hgn, hg1, hg2, hg3⟩ := hg
              obtain ⟨bytes, ps, hcode, hdec', hpar, hpl⟩ := LL.2.2.2.2.2.1 m' me' hme' hg0
              obtain ⟨w1, w2, w3⟩ := LL.2.2.2.1 _ _ hm' me' hme'
              dsimp only at hr
              rw [hme'] at hr
              dsimp only at hr
              by_cases hla : (layA (st.take me'.na).reverse).length ≤ me'.ml
              · rw [if_pos hla] at hr
                cases hcl : lexec P Q sc f m' me' 0 (lay (st.take me'.na).reverse me'.ml) [] w with
                | none => rw [hcl] at hr; cases hr
                | some vs =>
                  obtain ⟨u, w2'⟩ := vs
                  rw [hcl] at hr
                  have hr' : lexec P Q sc f mi me (pc + 3) ls (u.toList ++ st.drop me'.na) w2' = some (v, w') := by cases u <;> exact hr
                  have hndv : ∀ v ∈ (st.take me'.na).reverse, ∀ x, v ≠ .double x := fun v hv x e => nd_spec hg3 v (List.mem_reverse.mp hv) x e
                  have hM := met_of_LW LL (ih m' me' hme') hg0 l hdec' (as := (st.take me'.na).reverse) hndv hla hcl (by simpa [lRoom] using hc1) (by simpa [lRoom] using hc2) I
                  have hB := backOf (R := lRoom Q mi me) (p := p) (e := e) (below := below) (s := s₀) (args := args) (len := 3) (W := cats (st.drop me'.na)) hM hZ hcode w3 hg1 hg2
                  have hsm : st.map (va (rho a n0 (P.al.length + 1))) = (((st.take me'.na).reverse).map (va (rho a n0 (P.al.length + 1)))).reverse ++ (st.drop me'.na).map (va (rho a n0 (P.al.length + 1))) := by
                    conv => lhs; rw [← List.take_append_drop me'.na st]
                    simp
                  have hll : ∀ sig, parseMethodDescriptor (zOf Q me').desc = some sig → (((st.take me'.na).reverse).map (va (rho a n0 (P.al.length + 1)))).length = sig.parameters.length := lenOf hpar (by simp [hpl]; omega)
                  have hz1 : (lRoom Q m' me').cells = 0 := by simp [lRoom, hg0]
                  have hz2 : (lRoom Q m' me').slots = 0 := by simp [lRoom, hg0]
                  have hpre : ∀ vm₁, s₀.WarmedH vm₁ → ((((st.take me'.na).reverse).map (va (rho a n0 (P.al.length + 1)))).toArray = (((st.take me'.na).reverse).map (va (rho a n0 (P.al.length + 1)))).toArray ∧ (T.setVm vm₁).heap = T.heap ∧ lco P mi w + (lRoom Q m' me').cells ≤ (lRoom Q mi me).cells ∧ lzo P Q mi w + (lRoom Q m' me').slots ≤ (lRoom Q mi me).slots) := fun vm₁ _ => by
                    refine ⟨rfl, rfl, ?_, ?_⟩
                    · rw [hz1]; simp only [lco, lRoom] at *; split
                      · simpa using hc1
                      · exact Nat.le_refl _
                    · rw [hz2]; simp only [lzo, lRoom] at *; split
                      · simpa using hc2
                      · exact Nat.le_refl _
                  obtain ⟨v', vm₁, ⟨U, lo, ce, sl⟩, -, X', ⟨Lc, hQ, l1, l2, l3⟩, stp⟩ := Jvm.LawKit.callS X hx (y := zOf Q me') hown (mv hZ w1) (mv hZ w2) (mv hZ w3) (mv hZ hcode) LL.2.2.2.2.2.2.2 hB (g := mkF m pc L (st.map (va (rho a n0 (P.al.length + 1))))) rfl hsize hll hsm (by show 2 * 0 + _ ≤ _; rw [cats_va]; omega) hd hpre
                  dsimp only [Pt.U, Pt.locs, Pt.cells, Pt.slots] at X' hQ l1 l2 l3 stp
                  subst l1 l2 l3
                  obtain ⟨⟨rfl, hva⟩, hF', hI'⟩ := hQ
                  rw [hz1, hz2] at X'
                  have hcn := lexec_cnt _ _ _ _ _ _ _ _ _ hg0 hcl
                  have e1 : lco P mi w2' = lco P mi w := by simp only [lco, hcn]
                  have e2 : lzo P Q mi w2' = lzo P Q mi w := by simp only [lzo, hcn]
                  refine Don.step (fun t q => stp t ?_) (ihk p l e s₀ m args below meth cd U (locs ++ Lc) _ ls (v'.toList ++ st.drop me'.na) _ v w' L hx hZ hown hret hml hlk hs0 hdec hr' (by rw [e1, e2]; exact X') (by rw [hcn]; exact hc1) (by rw [hcn]; exact hc2) hI' (hFr.app hF') hL hlen)
                  rw [List.map_append, hva] at q; exact q
              · rw [if_neg hla] at hr; cases hr
            · cases hr
      -- the rest
      · split at hr
        · split at hr
          · rename_i u hu
            cases hr
            refine st_ret X hx hret hlk hu hd hn ⟨⟨rfl, cret_va hu⟩, hFr, I⟩ ?_ ?_
            · simp only [lco, lRoom] at *; split
              · simpa using hc1
              · exact Nat.le_refl _
            · simp only [lzo, lRoom] at *; split
              · simpa using hc2
              · exact Nat.le_refl _
          · cases hr
        · split at hr
          · rename_i pc' ls' st' hp
            obtain ⟨L', hL', hLs, st⟩ := pstep_sound X hx hp hd hn hL
            have hlen' : ls'.length = me.ml := by rw [← hL'.1, hLs, hL.1]; exact hlen
            exact Don.step st (ihk p l e s₀ m args below meth cd T locs _ ls' st' w v w' L' hx hZ hown hret hml hlk hs0 hdec hr X hc1 hc2 I hFr hL' hlen')
          · cases hr
/-- the law as a whole: what the machine returns, the program returns -/
theorem law_met {P : Cl} {Q : Lw} {sc : Sc} {Z : State} {a0 : Array Value} (LK : LinkC P Z a0) (LL : LinkL P Q Z a0) {a f : Nat} {me : Me} (hme : asc Q.ms 0 = some me) (l : Launch) {bytes : ByteArray} {ws : List Cond}
    (hdec : ∀ pc i n, fetch me.cd pc = some (i, n) → decode bytes pc = .ok (i, n) ∧ (isSw i = true ∨ n = ilen i))
    {as : List Value} (hnd : nd as = true) (hlen : (layA as).length ≤ me.ml) {v : Option Value} {w' : Wd} {h : Heap} (hr : lexec P Q sc f 0 me 0 (lay as me.ml) [] (fun _ => s0, 0, false) = some (v, w')) (hS : SRep Z h a h.size sc) :
    MetFree l (zOf Q me) (head1 (Cond.code (zOf Q me) bytes me.ml (retOf me.rt) :: ws) (lRoom Q 0 me)) (fun b U => b = (as.map (va (rho a h.size (P.al.length + 1)))).toArray ∧ Z.Warmed39 U.vm ∧ U.heap = h) (fun _ _ _ _ _ => True)
      (fun _ U o U' => ∃ u L, o = .returned u ∧ (u = v ∧ Fr h.size L) ∧ FrameEnd U o U' L Q.rc Q.rs) := by
  refine MetFree.of_bodySF (plainFor_of_name LL.2.2.2.2.2.2.1) hisR ?_
  intro p e s₀ m args below meth cd s₁ Bd hml hP hK
  obtain ⟨rfl, hZ, hh⟩ := hP
  have e0 : s₁.heap = h := by rw [← hh, Bd.state]; rfl
  have X0 : Stand p l e (lRoom Q 0 me) s₀ m _ below meth cd s₁ [] 0 0 := Stand.of_body Bd
  have hown : s₀.vm.findClass Q.nm = some m.cls := findClass_of_methodNamed Bd.named
  have hk0 : lco P 0 (fun _ => s0, 0, false) = 0 := by simp [lco]
  have hz0 : lzo P Q 0 (fun _ => s0, 0, false) = 0 := by simp [lzo]
  have D := lwalk LK LL (sc := sc) (a := a) (n0 := h.size) f 0 me hme p l e s₀ m _ below meth cd s₁ [] 0 (lay as me.ml) [] (fun _ => s0, 0, false) v w' _ Bd.exec hZ hown Bd.returns hml Bd.notSynchronized (fun _ => by rw [hh])
    (fun pc i n q => by rw [Bd.bytes]; exact hdec pc i n q) hr (by rw [hk0, hz0]; exact X0) (by simp) (by simp) (by
      rw [e0]; exact ⟨hS, fun o ho => absurd ho (Nat.not_lt_zero _), fun q => by simp at q, by simp⟩) (Fr.nil _) (lay_LR (nd_spec hnd) hlen) (lay_len hlen)
  obtain ⟨s₂, o, a1, a2, a3, u, L, a4, a5, a6⟩ := D
  refine ⟨s₂, o, a1, a2, a3, u, L, a4, ⟨a5.1.1, a5.2.1⟩, ?_⟩
  simpa [lRoom] using a6
end Jvm.LM

namespace Jvm.LM
open Sem ClassFile Op Lib Jvm.Stand Jvm.Free Jvm.LawKit Jvm.RoadKit
/-! what a run of the machine comes to -/
theorem cstep_mono {α : Type} {P : Cl} {mi : Nat} {me : Me} {rt : Option Value → St → Option α} {cl cl' : Nat → Nat → List Value → St → Rs} {k k' : Nat → Nat → Lv → List Value → St → Option α} {i : Instr} {c pc : Nat} {ls : Lv} {st : List Value} {s : St} {r : α}
    (hcl : ∀ m c as s r, cl m c as s = some r → cl' m c as s = some r) (hk : ∀ c pc ls st s r, k c pc ls st s = some r → k' c pc ls st s = some r) (h : cstep P mi me rt cl k i c pc ls st s = some r) : cstep P mi me rt cl' k' i c pc ls st s = some r := by
  unfold cstep at h ⊢
  split at h
  all_goals (try dsimp only)
  · split at h
    · split at h
      · exact hk _ _ _ _ _ _ h
      · cases h
    · cases h
  · split at h
    · split at h
      · exact hk _ _ _ _ _ _ h
      · cases h
    · cases h
  · split at h
    · exact hk _ _ _ _ _ _ h
    · cases h
  · split at h
    · exact hk _ _ _ _ _ _ h
    · cases h
  · split at h
    · exact hk _ _ _ _ _ _ h
    · cases h
  · split at h
    · exact hk _ _ _ _ _ _ h
    · cases h
  · split at h
    · exact hk _ _ _ _ _ _ h
    · cases h
  · split at h
    · exact hk _ _ _ _ _ _ h
    · cases h
  · split at h
    · rename_i q; rw [if_pos q]; exact hk _ _ _ _ _ _ h
    · cases h
  · split at h
    · exact hk _ _ _ _ _ _ h
    · cases h
  · split at h
    · exact hk _ _ _ _ _ _ h
    · cases h
  · split at h
    · split at h
      · rename_i q; rw [if_pos q]; exact hk _ _ _ _ _ _ h
      · cases h
    · cases h
  · split at h
    · cases h
    · rename_i m' hm'
      split at h
      · cases h
      · rename_i me' hme'
        split at h
        · rename_i r0 hst
          split at h
          · rename_i q
            rw [if_pos q]
            split at h
            · rename_i s1 hc; rw [hcl _ _ _ _ _ hc]; exact hk _ _ _ _ _ _ h
            · rename_i v1 s1 hc; rw [hcl _ _ _ _ _ hc]; exact hk _ _ _ _ _ _ h
            · cases h
          · cases h
        · cases h
  · split at h
    · rename_i q; rw [if_pos q]; exact h
    · rename_i q; rw [if_neg q]
      split at h
      · exact hk _ _ _ _ _ _ h
      · cases h
theorem cexec_succ {P : Cl} : ∀ f mi me c pc ls st s r, cexec P f mi me c pc ls st s = some r → cexec P (f + 1) mi me c pc ls st s = some r := by
  intro f
  induction f with
  | zero => intro mi me c pc ls st s r h; cases h
  | succ f ih =>
    intro mi me c pc ls st s r h
    rw [cexec] at h ⊢
    split at h
    · cases h
    · refine cstep_mono (fun m c as s r h => ?_) (fun c pc ls st s r h => ih _ _ _ _ _ _ _ _ h) h
      split at h
      · split at h
        · rename_i q; rw [if_pos q]; exact ih _ _ _ _ _ _ _ _ h
        · cases h
      · cases h
theorem cexec_le {P : Cl} {f g mi : Nat} {me : Me} {c pc : Nat} {ls : Lv} {st : List Value} {s : St} {r : Option Value × St} (hfg : f ≤ g) (h : cexec P f mi me c pc ls st s = some r) : cexec P g mi me c pc ls st s = some r := by
  obtain ⟨d, rfl⟩ := Nat.le.dest hfg
  induction d with
  | zero => exact h
  | succ d ih => exact cexec_succ _ _ _ _ _ _ _ _ _ (ih (Nat.le_add_right _ _))
theorem ccall_le {P : Cl} {f g m' c : Nat} {as : List Value} {s : St} {r : Option Value × St} (hfg : f ≤ g) (h : ccall P f m' c as s = some r) : ccall P g m' c as s = some r := by
  unfold ccall at h ⊢
  split at h
  · split at h
    · rename_i q; rw [if_pos q]; exact cexec_le hfg h
    · cases h
  · cases h
def wpc (P : Cl) (mi : Nat) (me : Me) (c pc : Nat) (ls : Lv) (st : List Value) (s : St) (Q : Option Value → St → Prop) : Prop := ∃ f v s', cexec P f mi me c pc ls st s = some (v, s') ∧ Q v s'
def cal (P : Cl) (m' c : Nat) (as : List Value) (s : St) (Q : Option Value → St → Prop) : Prop := ∃ f v s', ccall P f m' c as s = some (v, s') ∧ Q v s'
def calI (P : Cl) (m' c : Nat) (as : List Value) (s : St) (Q : Int32 → St → Prop) : Prop := cal P m' c as s fun r s' => ∃ v, r = some (.int v) ∧ Q v s'
def calL (P : Cl) (m' c : Nat) (as : List Value) (s : St) (Q : Int64 → St → Prop) : Prop := cal P m' c as s fun r s' => ∃ v, r = some (.long v) ∧ Q v s'
def calV (P : Cl) (m' c : Nat) (as : List Value) (s : St) (Q : St → Prop) : Prop := cal P m' c as s fun r s' => r = none ∧ Q s'
theorem cstep_nat {α : Type} {P : Cl} {mi : Nat} {me : Me} {k : Nat → Nat → Lv → List Value → St → Option α} {i : Instr} {c pc : Nat} {ls : Lv} {st : List Value} {s : St} {x : α}
    (h : cstep P mi me (fun _ _ => none) (fun _ _ _ _ => none) k i c pc ls st s = some x) : ∃ c' pc' ls' st' s', k c' pc' ls' st' s' = some x ∧ ∀ (β : Type) (rt : Option Value → St → Option β) cl (k' : Nat → Nat → Lv → List Value → St → Option β), cstep P mi me rt cl k' i c pc ls st s = k' c' pc' ls' st' s' := by
  unfold cstep at h
  split at h
  · split at h
    · split at h
      · rename_i q; exact ⟨_, _, _, _, _, h, fun β rt cl k' => by simp only [cstep, q]⟩
      · cases h
    · cases h
  · split at h
    · split at h
      · rename_i q; exact ⟨_, _, _, _, _, h, fun β rt cl k' => by simp only [cstep, q]⟩
      · cases h
    · cases h
  · split at h
    · rename_i q; exact ⟨_, _, _, _, _, h, fun β rt cl k' => by simp only [cstep, q]⟩
    · cases h
  · split at h
    · rename_i q; exact ⟨_, _, _, _, _, h, fun β rt cl k' => by simp only [cstep, q]⟩
    · cases h
  · split at h
    · rename_i q; exact ⟨_, _, _, _, _, h, fun β rt cl k' => by simp only [cstep, q]⟩
    · cases h
  · split at h
    · rename_i q; exact ⟨_, _, _, _, _, h, fun β rt cl k' => by simp only [cstep, q]⟩
    · cases h
  · split at h
    · rename_i q; exact ⟨_, _, _, _, _, h, fun β rt cl k' => by simp only [cstep, q]⟩
    · cases h
  · split at h
    · rename_i q; exact ⟨_, _, _, _, _, h, fun β rt cl k' => by simp only [cstep, q]⟩
    · cases h
  · split at h
    · rename_i q; exact ⟨_, _, _, _, _, h, fun β rt cl k' => by simp only [cstep]; rw [if_pos q]⟩
    · cases h
  · split at h
    · rename_i q; exact ⟨_, _, _, _, _, h, fun β rt cl k' => by simp only [cstep, q]⟩
    · cases h
  · split at h
    · rename_i q; exact ⟨_, _, _, _, _, h, fun β rt cl k' => by simp only [cstep, q]⟩
    · cases h
  · split at h
    · split at h
      · rename_i q; exact ⟨_, _, _, _, _, h, fun β rt cl k' => by simp only [cstep]; rw [if_pos q]⟩
      · cases h
    · cases h
  · split at h
    · cases h
    · split at h
      · cases h
      · split at h
        · split at h
          · cases h
          · cases h
        · cases h
  · rename_i n1 n2 n3 n4 n5 n6 n7 n8 n9 n10 n11 n12 n13
    split at h
    · split at h
      · cases h
      · split at h <;> cases h
    · rename_i hr
      split at h
      · rename_i pc' ls' st' hp
        refine ⟨_, _, _, _, _, h, fun β rt cl k' => ?_⟩
        unfold cstep
        split <;> first | (exfalso; first | exact n1 _ rfl | exact n2 _ rfl | exact n3 rfl | exact n4 rfl | exact n5 rfl | exact n6 rfl | exact n7 rfl | exact n8 rfl | exact n9 _ rfl | exact n10 _ rfl | exact n11 _ rfl | exact n12 _ rfl | exact n13 _ rfl) | skip
        rw [if_neg hr, hp]
      · cases h
def csl (P : Cl) (mi : Nat) (me : Me) : Nat → Nat → Nat → Lv → List Value → St → Option (Nat × Nat × Lv × List Value × St)
  | 0, c, pc, ls, st, s => some (c, pc, ls, st, s)
  | n + 1, c, pc, ls, st, s => match fetch me.cd pc with
    | none => none
    | some (i, _) => cstep P mi me (fun _ _ => none) (fun _ _ _ _ => none) (csl P mi me n) i c pc ls st s
theorem wpc_one {P : Cl} {mi : Nat} {me : Me} {c pc c' pc' : Nat} {ls ls' : Lv} {st st' : List Value} {s s' : St} {Q : Option Value → St → Prop} {i : Instr} {n : Nat} (hf : fetch me.cd pc = some (i, n))
    (h : ∀ (rt : Option Value → St → Rs) cl (k : Nat → Nat → Lv → List Value → St → Rs), cstep P mi me rt cl k i c pc ls st s = k c' pc' ls' st' s') (hq : wpc P mi me c' pc' ls' st' s' Q) : wpc P mi me c pc ls st s Q := by
  obtain ⟨f, v, s2, h1, h2⟩ := hq
  refine ⟨f + 1, v, s2, ?_, h2⟩
  rw [cexec, hf]; dsimp only; rw [h]; exact h1
theorem wpc_sl {P : Cl} {mi : Nat} {me : Me} {Q : Option Value → St → Prop} : ∀ {n c pc c' pc' : Nat} {ls ls' : Lv} {st st' : List Value} {s s' : St}, csl P mi me n c pc ls st s = some (c', pc', ls', st', s') → wpc P mi me c' pc' ls' st' s' Q → wpc P mi me c pc ls st s Q := by
  intro n
  induction n with
  | zero => intro c pc c' pc' ls ls' st st' s s' h hq; cases h; exact hq
  | succ n ih =>
    intro c pc c' pc' ls ls' st st' s s' h hq
    simp only [csl] at h
    split at h
    · cases h
    · rename_i i m hf
      obtain ⟨c1, pc1, ls1, st1, s1, h1, h2⟩ := cstep_nat h
      exact wpc_one hf (fun rt cl k => h2 _ rt cl k) (ih h1 hq)
theorem wpc_ret {P : Cl} {mi : Nat} {me : Me} {c pc : Nat} {ls : Lv} {st : List Value} {s : St} {Q : Option Value → St → Prop} {i : Instr} {n : Nat} {v : Option Value} (hf : fetch me.cd pc = some (i, n)) (hr : isRet i = true) (hc : mi = 0 → c = P.al.length) (h : cret me st i = some v) (hq : Q v s) : wpc P mi me c pc ls st s Q := by
  refine ⟨1, v, s, ?_, hq⟩
  rw [cexec, hf]; dsimp only
  have hc' : ¬ (mi = 0 ∧ c ≠ P.al.length) := fun q => q.2 (hc q.1)
  cases i <;> first | (cases hr; done) | (simp only [cstep]; rw [if_pos hr, if_neg hc', h])
theorem wpc_if {P : Cl} {mi : Nat} {me : Me} {c pc a b : Nat} {ls : Lv} {r : List Value} {s : St} {Q : Option Value → St → Prop} {cd : ClassFile.Cond} {o : Int} {n : Nat} {x : Int32} (hf : fetch me.cd pc = some (.ifCond cd o, n)) (ho : 0 ≤ (pc : Int) + o) (ha : jmp pc o = a) (hb : pc + 3 = b)
    (hq : wpc P mi me c (br cd x 0 a b) ls r s Q) : wpc P mi me c pc ls (.int x :: r) s Q := by
  subst ha hb
  refine wpc_one hf (fun rt cl k => ?_) hq
  show (match pstep (.ifCond cd o) pc ls (.int x :: r) with | some (pc', ls', st') => k c pc' ls' st' s | none => none) = _
  simp only [pstep, qstep]; rw [if_pos ho]
theorem wpc_icmp {P : Cl} {mi : Nat} {me : Me} {c pc a b : Nat} {ls : Lv} {r : List Value} {s : St} {Q : Option Value → St → Prop} {cd : ClassFile.Cond} {o : Int} {n : Nat} {x y : Int32} (hf : fetch me.cd pc = some (.if_icmp cd o, n)) (ho : 0 ≤ (pc : Int) + o) (ha : jmp pc o = a) (hb : pc + 3 = b)
    (hq : wpc P mi me c (br cd x y a b) ls r s Q) : wpc P mi me c pc ls (.int y :: .int x :: r) s Q := by
  subst ha hb
  refine wpc_one hf (fun rt cl k => ?_) hq
  show (match pstep (.if_icmp cd o) pc ls (.int y :: .int x :: r) with | some (pc', ls', st') => k c pc' ls' st' s | none => none) = _
  simp only [pstep, qstep]; rw [if_pos ho]
/-- the two roads of a branch -/
theorem wpc_br {P : Cl} {mi : Nat} {me : Me} {c a b : Nat} {ls : Lv} {st : List Value} {s : St} {Q : Option Value → St → Prop} {p : Prop} [Decidable p] (h : (p → wpc P mi me c a ls st s Q) ∧ (¬ p → wpc P mi me c b ls st s Q)) : wpc P mi me c (if p then a else b) ls st s Q := by
  by_cases hp : p
  · rw [if_pos hp]; exact h.1 hp
  · rw [if_neg hp]; exact h.2 hp
theorem wpc_lda {P : Cl} {mi : Nat} {me : Me} {c pc a tt N : Nat} {ls : Lv} {r : List Value} {s : St} {Q : Option Value → St → Prop} {i : Instr} {n : Nat} {j : Int32} (hf : fetch me.cd pc = some (i, n)) (hi : (tt = 0 ∧ i = .iaload) ∨ (tt = 1 ∧ i = .baload) ∨ (tt = 2 ∧ i = .laload)) (ha : P.al[a]? = some (tt, N)) (hac : a < c)
    (hj : inb N j) (hq : wpc P mi me c (pc + 1) ls (elv tt s (a + 1) (ix j) :: r) s Q) : wpc P mi me c pc ls (.int j :: .ref (a + 1) :: r) s Q := by
  have hl : lda P tt c (.int j :: .ref (a + 1) :: r) s = some (elv tt s (a + 1) (ix j) :: r) := by
    simp only [lda, ha]; rw [if_pos ⟨trivial, hac⟩, if_pos hj]; rfl
  refine wpc_one hf (fun rt cl k => ?_) hq
  rcases hi with ⟨rfl, rfl⟩ | ⟨rfl, rfl⟩ | ⟨rfl, rfl⟩ <;> simp only [cstep, hl]
theorem wpc_sta {P : Cl} {mi : Nat} {me : Me} {c pc a tt N : Nat} {ls : Lv} {r : List Value} {s s' : St} {Q : Option Value → St → Prop} {i : Instr} {n : Nat} {j : Int32} {v : Value} (hf : fetch me.cd pc = some (i, n)) (hi : (tt = 0 ∧ i = .iastore ∧ ∃ z, v = .int z ∧ s' = sI s (a + 1) (ix j) z) ∨ (tt = 1 ∧ i = .bastore ∧ ∃ z, v = .int z ∧ s' = sI s (a + 1) (ix j) (z &&& 1)) ∨ (tt = 2 ∧ i = .lastore ∧ ∃ z, v = .long z ∧ s' = sL s (a + 1) (ix j) z)) (ha : P.al[a]? = some (tt, N)) (hac : a < c)
    (hj : inb N j) (hq : wpc P mi me c (pc + 1) ls r s' Q) : wpc P mi me c pc ls (v :: .int j :: .ref (a + 1) :: r) s Q := by
  have hl : sta P tt c (v :: .int j :: .ref (a + 1) :: r) s = some (r, s') := by
    simp only [sta, ha]; rw [if_pos ⟨trivial, hac⟩, if_pos hj]
    rcases hi with ⟨rfl, -, z, rfl, rfl⟩ | ⟨rfl, -, z, rfl, rfl⟩ | ⟨rfl, -, z, rfl, rfl⟩ <;> rfl
  refine wpc_one hf (fun rt cl k => ?_) hq
  rcases hi with ⟨rfl, rfl, -⟩ | ⟨rfl, rfl, -⟩ | ⟨rfl, rfl, -⟩ <;> simp only [cstep, hl]
theorem wpc_call {P : Cl} {mi : Nat} {me me' : Me} {c pc x m' : Nat} {ls : Lv} {st r as : List Value} {s : St} {Q : Option Value → St → Prop} {n : Nat} (hf : fetch me.cd pc = some (.invokevirtual x, n)) (hm : asc P.mx x = some m') (hme : asc P.ms m' = some me') (hst : st.drop me'.na = .ref 0 :: r) (has : (st.take me'.na).reverse = as)
    (hg : m' ≠ 0 ∧ me'.rf + 1 ≤ me.rf ∧ cats r + (me'.ml + 11) + me'.rl ≤ me.rl ∧ nd (st.take me'.na) = true)
    (hq : cal P m' c (.ref 0 :: as) s fun v s' => wpc P mi me c (pc + 3) ls (v.toList ++ r) s' Q) : wpc P mi me c pc ls st s Q := by
  subst has
  obtain ⟨f1, v, s1, h1, f2, v2, s2, h2, h3⟩ := hq
  refine ⟨max f1 f2 + 1, v2, s2, ?_, h3⟩
  have h1' := ccall_le (Nat.le_max_left f1 f2) h1
  have h2' := cexec_le (Nat.le_max_right f1 f2) h2
  rw [cexec, hf]; dsimp only
  simp only [cstep, hm, hme, hst]
  rw [if_pos hg]
  simp only [ccall, hme] at h1'
  rw [h1']
  cases v <;> exact h2'
theorem cal_of {P : Cl} {m' c : Nat} {as : List Value} {s : St} {Q : Option Value → St → Prop} {me : Me} {ls : Lv} (hme : asc P.ms m' = some me) (hl : (layA as).length ≤ me.ml) (hls : lay as me.ml = ls) (h : wpc P m' me c 0 ls [] s Q) : cal P m' c as s Q := by
  subst hls
  obtain ⟨f, v, s', h1, h2⟩ := h
  refine ⟨f, v, s', ?_, h2⟩
  simp only [ccall, hme]; rw [if_pos hl]; exact h1
theorem cal.mono {P : Cl} {m' c : Nat} {as : List Value} {s : St} {Q Q' : Option Value → St → Prop} (h : cal P m' c as s Q) (hq : ∀ v s', Q v s' → Q' v s') : cal P m' c as s Q' := by
  obtain ⟨f, v, s', h1, h2⟩ := h; exact ⟨f, v, s', h1, hq _ _ h2⟩
theorem calI.mono {P : Cl} {m' c : Nat} {as : List Value} {s : St} {Q Q' : Int32 → St → Prop} (h : calI P m' c as s Q) (hq : ∀ v s', Q v s' → Q' v s') : calI P m' c as s Q' := cal.mono h fun _ _ ⟨v, e, q⟩ => ⟨v, e, hq _ _ q⟩
theorem calL.mono {P : Cl} {m' c : Nat} {as : List Value} {s : St} {Q Q' : Int64 → St → Prop} (h : calL P m' c as s Q) (hq : ∀ v s', Q v s' → Q' v s') : calL P m' c as s Q' := cal.mono h fun _ _ ⟨v, e, q⟩ => ⟨v, e, hq _ _ q⟩
theorem calV.mono {P : Cl} {m' c : Nat} {as : List Value} {s : St} {Q Q' : St → Prop} (h : calV P m' c as s Q) (hq : ∀ s', Q s' → Q' s') : calV P m' c as s Q' := cal.mono h fun _ _ ⟨e, q⟩ => ⟨e, hq _ q⟩
theorem wpc.mono {P : Cl} {mi : Nat} {me : Me} {c pc : Nat} {ls : Lv} {st : List Value} {s : St} {Q Q' : Option Value → St → Prop} (h : wpc P mi me c pc ls st s Q) (hq : ∀ v s', Q v s' → Q' v s') : wpc P mi me c pc ls st s Q' := by
  obtain ⟨f, v, s', h1, h2⟩ := h; exact ⟨f, v, s', h1, hq _ _ h2⟩
theorem wpc_callI {P : Cl} {mi : Nat} {me me' : Me} {c pc x m' : Nat} {ls : Lv} {st r as : List Value} {s : St} {Q : Option Value → St → Prop} {n : Nat} (hf : fetch me.cd pc = some (.invokevirtual x, n)) (hm : asc P.mx x = some m') (hme : asc P.ms m' = some me') (hst : st.drop me'.na = .ref 0 :: r) (has : (st.take me'.na).reverse = as)
    (hg : m' ≠ 0 ∧ me'.rf + 1 ≤ me.rf ∧ cats r + (me'.ml + 11) + me'.rl ≤ me.rl ∧ nd (st.take me'.na) = true)
    (hq : calI P m' c (.ref 0 :: as) s fun v s' => wpc P mi me c (pc + 3) ls (.int v :: r) s' Q) : wpc P mi me c pc ls st s Q :=
  wpc_call hf hm hme hst has hg (cal.mono hq fun _ _ ⟨v, e, q⟩ => by subst e; exact q)
theorem wpc_callL {P : Cl} {mi : Nat} {me me' : Me} {c pc x m' : Nat} {ls : Lv} {st r as : List Value} {s : St} {Q : Option Value → St → Prop} {n : Nat} (hf : fetch me.cd pc = some (.invokevirtual x, n)) (hm : asc P.mx x = some m') (hme : asc P.ms m' = some me') (hst : st.drop me'.na = .ref 0 :: r) (has : (st.take me'.na).reverse = as)
    (hg : m' ≠ 0 ∧ me'.rf + 1 ≤ me.rf ∧ cats r + (me'.ml + 11) + me'.rl ≤ me.rl ∧ nd (st.take me'.na) = true)
    (hq : calL P m' c (.ref 0 :: as) s fun v s' => wpc P mi me c (pc + 3) ls (.long v :: r) s' Q) : wpc P mi me c pc ls st s Q :=
  wpc_call hf hm hme hst has hg (cal.mono hq fun _ _ ⟨v, e, q⟩ => by subst e; exact q)
theorem wpc_callV {P : Cl} {mi : Nat} {me me' : Me} {c pc x m' : Nat} {ls : Lv} {st r as : List Value} {s : St} {Q : Option Value → St → Prop} {n : Nat} (hf : fetch me.cd pc = some (.invokevirtual x, n)) (hm : asc P.mx x = some m') (hme : asc P.ms m' = some me') (hst : st.drop me'.na = .ref 0 :: r) (has : (st.take me'.na).reverse = as)
    (hg : m' ≠ 0 ∧ me'.rf + 1 ≤ me.rf ∧ cats r + (me'.ml + 11) + me'.rl ≤ me.rl ∧ nd (st.take me'.na) = true)
    (hq : calV P m' c (.ref 0 :: as) s fun s' => wpc P mi me c (pc + 3) ls r s' Q) : wpc P mi me c pc ls st s Q :=
  wpc_call hf hm hme hst has hg (cal.mono hq fun _ _ ⟨e, q⟩ => by subst e; exact q)
/-- both roads of a value -/
theorem wp_val {p : Prop} [Decidable p] {α : Sort _} {F : α → Prop} {x y : α} (h : F (if p then x else y)) : (p → F x) ∧ (¬ p → F y) := ⟨fun q => by rw [if_pos q] at h; exact h, fun q => by rw [if_neg q] at h; exact h⟩
end Jvm.LM

namespace Jvm.LM
open Sem ClassFile Op Lib Jvm.Stand Jvm.Free Jvm.LawKit Jvm.RoadKit
/-! variables that are not read any more -/
def lle (a b : Lv) : Prop := a.length = b.length ∧ ∀ (k : Nat) (v : Value), a[k]? = some (some v) → b[k]? = some (some v)
def lle' : Lv → Lv → Prop
  | [], [] => True
  | none :: a, _ :: b => lle' a b
  | some v :: a, w :: b => w = some v ∧ lle' a b
  | _, _ => False
theorem lle_of {a b : Lv} (h : lle' a b) : lle a b := by
  induction a generalizing b with
  | nil => cases b with
    | nil => exact ⟨rfl, fun k v hk => hk⟩
    | cons y b => cases h
  | cons x a ih =>
    cases b with
    | nil => cases x <;> cases h
    | cons y b =>
      cases x with
      | none =>
        obtain ⟨h1, h2⟩ := ih (b := b) h
        refine ⟨by simp [h1], fun k v hk => ?_⟩
        cases k with
        | zero => simp at hk
        | succ k => simp at hk ⊢; exact h2 k v hk
      | some x =>
        obtain ⟨e, h⟩ := h
        obtain ⟨h1, h2⟩ := ih (b := b) h
        subst e
        refine ⟨by simp [h1], fun k v hk => ?_⟩
        cases k with
        | zero => exact hk
        | succ k => simp at hk ⊢; exact h2 k v hk
theorem clr_lle {a b : Lv} (h : lle a b) (i : Nat) : (clr a i).length = (clr b i).length ∧ ∀ k v, k ≠ i → (clr a i)[k]? = some (some v) → (clr b i)[k]? = some (some v) := by
  refine ⟨by rw [clr_len, clr_len]; exact h.1, fun k v hk hv => ?_⟩
  obtain ⟨q1, q2⟩ := clr_get hv
  have q3 := h.2 _ _ q1
  cases i with
  | zero => exact q3
  | succ j =>
    simp only [clr]
    split
    · rename_i x e
      rw [List.getElem?_set]
      split
      · rename_i e2; subst e2
        rw [q3] at e; cases e
        exact absurd rfl (q2 rfl)
      · exact q3
    · rename_i x e
      rw [List.getElem?_set]
      split
      · rename_i e2; subst e2
        rw [q3] at e; cases e
        exact absurd rfl (q2 rfl)
      · exact q3
    · exact q3
theorem stl_lle {a b a' : Lv} (h : lle a b) {i : Nat} {v : Value} (hs : stl a i v = some a') : ∃ b', stl b i v = some b' ∧ lle a' b' := by
  obtain ⟨c1, c2⟩ := clr_lle h i
  have hl := h.1
  have one : ∀ w : Value, ∀ k u, ((clr a i).set i (some w))[k]? = some (some u) → ((clr b i).set i (some w))[k]? = some (some u) := fun w k u hk => by
    rw [List.getElem?_set] at hk ⊢
    split
    · rename_i e; rw [if_pos e] at hk; rw [← c1]; exact hk
    · rename_i e; rw [if_neg e] at hk; exact c2 k u (fun q => e q.symm) hk
  unfold stl at hs ⊢
  split at hs
  · rename_i x
    split at hs
    · rename_i q
      cases hs
      refine ⟨((clr b i).set i (some (.long x))).set (i + 1) none, if_pos (by rw [← hl]; exact q), by simp [c1], fun k u hk => ?_⟩
      rw [List.getElem?_set] at hk ⊢
      split
      · rename_i e; rw [if_pos e] at hk; split at hk <;> simp at hk
      · rename_i e; rw [if_neg e] at hk; exact one _ k u hk
    · cases hs
  · split at hs
    · rename_i q
      cases hs
      exact ⟨(clr b i).set i (some v), if_pos (by rw [← hl]; exact q), by simp [c1], fun k u hk => one _ k u hk⟩
    · cases hs
theorem pstep_lle {i : Instr} {pc pc' : Nat} {ls l1 ls' : Lv} {st st' : List Value} (h : pstep i pc ls st = some (pc', l1, st')) (hl : lle ls ls') : ∃ l1', pstep i pc ls' st = some (pc', l1', st') ∧ lle l1 l1' := by
  unfold pstep at h ⊢
  split at h
  all_goals (try dsimp only)
  iterate 6
    · split at h
      · rename_i e; cases h; rw [hl.2 _ _ e]; exact ⟨_, rfl, hl⟩
      · cases h
  iterate 6
    · split at h
      · split at h
        · rename_i e; cases h
          obtain ⟨b', q1, q2⟩ := stl_lle hl e
          rw [q1]; exact ⟨_, rfl, q2⟩
        · cases h
      · cases h
  · split at h
    · rename_i e0
      split at h
      · rename_i e; cases h
        obtain ⟨b', q1, q2⟩ := stl_lle hl e
        rw [hl.2 _ _ e0]; dsimp only; rw [q1]; exact ⟨_, rfl, q2⟩
      · cases h
    · cases h
  · split at h
    · cases h; exact ⟨_, rfl, hl⟩
    · cases h
theorem cstep_lle {P : Cl} {mi : Nat} {me : Me} {rt : Option Value → St → Rs} {cl : Nat → Nat → List Value → St → Rs} {k : Nat → Nat → Lv → List Value → St → Rs} {i : Instr} {c pc : Nat} {ls ls' : Lv} {st : List Value} {s : St} {r : Option Value × St} (hl : lle ls ls')
    (hk : ∀ c pc ls ls' st s, lle ls ls' → k c pc ls st s = some r → k c pc ls' st s = some r) (h : cstep P mi me rt cl k i c pc ls st s = some r) : cstep P mi me rt cl k i c pc ls' st s = some r := by
  unfold cstep at h ⊢
  split at h
  all_goals (try dsimp only)
  · split at h
    · split at h
      · exact hk _ _ _ _ _ _ hl h
      · cases h
    · cases h
  · split at h
    · split at h
      · exact hk _ _ _ _ _ _ hl h
      · cases h
    · cases h
  iterate 6
    · split at h
      · exact hk _ _ _ _ _ _ hl h
      · cases h
  · split at h
    · rename_i q; rw [if_pos q]; exact hk _ _ _ _ _ _ hl h
    · cases h
  iterate 2
    · split at h
      · exact hk _ _ _ _ _ _ hl h
      · cases h
  · split at h
    · split at h
      · rename_i q; rw [if_pos q]; exact hk _ _ _ _ _ _ hl h
      · cases h
    · cases h
  · split at h
    · cases h
    · split at h
      · cases h
      · split at h
        · split at h
          · rename_i q
            rw [if_pos q]
            split at h
            · exact hk _ _ _ _ _ _ hl h
            · exact hk _ _ _ _ _ _ hl h
            · cases h
          · cases h
        · cases h
  · split at h
    · rename_i q; rw [if_pos q]; exact h
    · rename_i q; rw [if_neg q]
      split at h
      · rename_i e
        obtain ⟨l1', q1, q2⟩ := pstep_lle e hl
        rw [q1]; exact hk _ _ _ _ _ _ q2 h
      · cases h
theorem cexec_lle {P : Cl} : ∀ f mi me c pc ls ls' st s r, lle ls ls' → cexec P f mi me c pc ls st s = some r → cexec P f mi me c pc ls' st s = some r := by
  intro f
  induction f with
  | zero => intro mi me c pc ls ls' st s r _ h; cases h
  | succ f ih =>
    intro mi me c pc ls ls' st s r hl h
    rw [cexec] at h ⊢
    split at h
    · cases h
    · exact cstep_lle hl (fun c pc ls ls' st s hl h => ih _ _ _ _ _ _ _ _ _ hl h) h
theorem wpc_lle {P : Cl} {mi : Nat} {me : Me} {c pc : Nat} {ls ls' : Lv} {st : List Value} {s : St} {Q : Option Value → St → Prop} (hl : lle' ls ls') (h : wpc P mi me c pc ls st s Q) : wpc P mi me c pc ls' st s Q := by
  obtain ⟨f, v, s', h1, h2⟩ := h; exact ⟨f, v, s', cexec_lle _ _ _ _ _ _ _ _ _ _ (lle_of hl) h1, h2⟩
end Jvm.LM

namespace Jvm.LM
open Sem ClassFile Op Lib Jvm.Stand Jvm.Free Jvm.LawKit Jvm.RoadKit
theorem lstep_mono {α : Type} {P : Cl} {Q : Lw} {sc : Sc} {mi : Nat} {me : Me} {rt : Option Value → Wd → Option α} {cc cc' : Nat → Nat → List Value → St → Rs} {cl cl' : Nat → List Value → Wd → Rw} {k k' : Nat → Lv → List Value → Wd → Option α} {i : Instr} {pc : Nat} {ls : Lv} {st : List Value} {w : Wd} {r : α}
    (hcc : ∀ m c as s r, cc m c as s = some r → cc' m c as s = some r) (hcl : ∀ m as s r, cl m as s = some r → cl' m as s = some r) (hk : ∀ pc ls st s r, k pc ls st s = some r → k' pc ls st s = some r) (h : lstep P Q sc mi me rt cc cl k i pc ls st w = some r) : lstep P Q sc mi me rt cc' cl' k' i pc ls st w = some r := by
  unfold lstep at h ⊢
  split at h
  all_goals (try dsimp only)
  · split at h
    · split at h
      · rename_i q; rw [if_pos q]; exact hk _ _ _ _ _ h
      · cases h
    · cases h
  · split at h
    · exact hk _ _ _ _ _ h
    · cases h
  · split at h
    · exact hk _ _ _ _ _ h
    · cases h
  · split at h
    · exact hk _ _ _ _ _ h
    · cases h
  · split at h
    · rename_i q; rw [if_pos q]; exact hk _ _ _ _ _ h
    · cases h
  · split at h
    · cases h
    · split at h
      · split at h
        · rename_i q
          rw [if_pos q]
          split at h
          · rename_i s1 hc; rw [hcc _ _ _ _ _ hc]; exact hk _ _ _ _ _ h
          · cases h
        · cases h
      · cases h
  · split at h
    · cases h
    · split at h
      · cases h
      · split at h
        · split at h
          · rename_i q
            rw [if_pos q]
            split at h
            · rename_i s1 hc; rw [hcc _ _ _ _ _ hc]; exact hk _ _ _ _ _ h
            · rename_i v1 s1 hc; rw [hcc _ _ _ _ _ hc]; exact hk _ _ _ _ _ h
            · cases h
          · cases h
        · cases h
  · split at h
    · cases h
    · split at h
      · cases h
      · split at h
        · rename_i q
          rw [if_pos q]
          split at h
          · rename_i s1 hc; rw [hcl _ _ _ _ hc]; exact hk _ _ _ _ _ h
          · rename_i v1 s1 hc; rw [hcl _ _ _ _ hc]; exact hk _ _ _ _ _ h
          · cases h
        · cases h
  · split at h
    · rename_i q; rw [if_pos q]; exact h
    · rename_i q; rw [if_neg q]
      split at h
      · exact hk _ _ _ _ _ h
      · cases h
theorem lexec_succ {P : Cl} {Q : Lw} {sc : Sc} : ∀ f mi me pc ls st w r, lexec P Q sc f mi me pc ls st w = some r → lexec P Q sc (f + 1) mi me pc ls st w = some r := by
  intro f
  induction f with
  | zero => intro mi me pc ls st s r h; cases h
  | succ f ih =>
    intro mi me pc ls st s r h
    rw [lexec] at h ⊢
    split at h
    · cases h
    · refine lstep_mono (fun m c as s r h => ccall_le (Nat.le_succ _) h) (fun m as s r h => ?_) (fun pc ls st s r h => ih _ _ _ _ _ _ _ h) h
      split at h
      · split at h
        · rename_i q; rw [if_pos q]; exact ih _ _ _ _ _ _ _ h
        · cases h
      · cases h
theorem lexec_le {P : Cl} {Q : Lw} {sc : Sc} {f g mi : Nat} {me : Me} {pc : Nat} {ls : Lv} {st : List Value} {w : Wd} {r : Option Value × Wd} (hfg : f ≤ g) (h : lexec P Q sc f mi me pc ls st w = some r) : lexec P Q sc g mi me pc ls st w = some r := by
  obtain ⟨d, rfl⟩ := Nat.le.dest hfg
  induction d with
  | zero => exact h
  | succ d ih => exact lexec_succ _ _ _ _ _ _ _ _ (ih (Nat.le_add_right _ _))
theorem lcall_le {P : Cl} {Q : Lw} {sc : Sc} {f g m' : Nat} {as : List Value} {w : Wd} {r : Option Value × Wd} (hfg : f ≤ g) (h : lcall P Q sc f m' as w = some r) : lcall P Q sc g m' as w = some r := by
  unfold lcall at h ⊢
  split at h
  · split at h
    · rename_i q; rw [if_pos q]; exact lexec_le hfg h
    · cases h
  · cases h
def wpl (P : Cl) (Q : Lw) (sc : Sc) (mi : Nat) (me : Me) (pc : Nat) (ls : Lv) (st : List Value) (w : Wd) (R : Option Value → Wd → Prop) : Prop := ∃ f v w', lexec P Q sc f mi me pc ls st w = some (v, w') ∧ R v w'
def lal (P : Cl) (Q : Lw) (sc : Sc) (m' : Nat) (as : List Value) (w : Wd) (R : Option Value → Wd → Prop) : Prop := ∃ f v w', lcall P Q sc f m' as w = some (v, w') ∧ R v w'
def lalI (P : Cl) (Q : Lw) (sc : Sc) (m' : Nat) (as : List Value) (w : Wd) (R : Int32 → Wd → Prop) : Prop := lal P Q sc m' as w fun r w' => ∃ v, r = some (.int v) ∧ R v w'
def lalL (P : Cl) (Q : Lw) (sc : Sc) (m' : Nat) (as : List Value) (w : Wd) (R : Int64 → Wd → Prop) : Prop := lal P Q sc m' as w fun r w' => ∃ v, r = some (.long v) ∧ R v w'
def lalV (P : Cl) (Q : Lw) (sc : Sc) (m' : Nat) (as : List Value) (w : Wd) (R : Wd → Prop) : Prop := lal P Q sc m' as w fun r w' => r = none ∧ R w'
theorem lal.mono {P : Cl} {Q : Lw} {sc : Sc} {m' : Nat} {as : List Value} {w : Wd} {R R' : Option Value → Wd → Prop} (h : lal P Q sc m' as w R) (hq : ∀ v s', R v s' → R' v s') : lal P Q sc m' as w R' := by
  obtain ⟨f, v, s', h1, h2⟩ := h; exact ⟨f, v, s', h1, hq _ _ h2⟩
theorem lalI.mono {P : Cl} {Q : Lw} {sc : Sc} {m' : Nat} {as : List Value} {w : Wd} {R R' : Int32 → Wd → Prop} (h : lalI P Q sc m' as w R) (hq : ∀ v s', R v s' → R' v s') : lalI P Q sc m' as w R' := lal.mono h fun _ _ ⟨v, e, q⟩ => ⟨v, e, hq _ _ q⟩
theorem lalL.mono {P : Cl} {Q : Lw} {sc : Sc} {m' : Nat} {as : List Value} {w : Wd} {R R' : Int64 → Wd → Prop} (h : lalL P Q sc m' as w R) (hq : ∀ v s', R v s' → R' v s') : lalL P Q sc m' as w R' := lal.mono h fun _ _ ⟨v, e, q⟩ => ⟨v, e, hq _ _ q⟩
theorem lalV.mono {P : Cl} {Q : Lw} {sc : Sc} {m' : Nat} {as : List Value} {w : Wd} {R R' : Wd → Prop} (h : lalV P Q sc m' as w R) (hq : ∀ s', R s' → R' s') : lalV P Q sc m' as w R' := lal.mono h fun _ _ ⟨e, q⟩ => ⟨e, hq _ q⟩
theorem wpl.mono {P : Cl} {Q : Lw} {sc : Sc} {mi : Nat} {me : Me} {pc : Nat} {ls : Lv} {st : List Value} {w : Wd} {R R' : Option Value → Wd → Prop} (h : wpl P Q sc mi me pc ls st w R) (hq : ∀ v s', R v s' → R' v s') : wpl P Q sc mi me pc ls st w R' := by
  obtain ⟨f, v, s', h1, h2⟩ := h; exact ⟨f, v, s', h1, hq _ _ h2⟩
theorem wpl_one {P : Cl} {Q : Lw} {sc : Sc} {mi : Nat} {me : Me} {pc pc' : Nat} {ls ls' : Lv} {st st' : List Value} {w w' : Wd} {R : Option Value → Wd → Prop} {i : Instr} {n : Nat} (hf : fetch me.cd pc = some (i, n))
    (h : ∀ (rt : Option Value → Wd → Rw) cc cl (k : Nat → Lv → List Value → Wd → Rw), lstep P Q sc mi me rt cc cl k i pc ls st w = k pc' ls' st' w') (hq : wpl P Q sc mi me pc' ls' st' w' R) : wpl P Q sc mi me pc ls st w R := by
  obtain ⟨f, v, s2, h1, h2⟩ := hq
  refine ⟨f + 1, v, s2, ?_, h2⟩
  rw [lexec, hf]; dsimp only; rw [h]; exact h1
/-- plain steps: nothing of the heap, no call -/
def isPl : Instr → Bool
  | .iaload => false | .arraylength => false | .ldc _ => false | .ldc2_w _ => false | .new _ => false | .invokespecial _ => false | .invokevirtual _ => false | .invokestatic _ => false
  | .ireturn => false | .lreturn => false | .return_ => false
  | _ => true
theorem lstep_pl {α : Type} {P : Cl} {Q : Lw} {sc : Sc} {mi : Nat} {me : Me} {rt : Option Value → Wd → Option α} {cc : Nat → Nat → List Value → St → Rs} {cl : Nat → List Value → Wd → Rw} {k : Nat → Lv → List Value → Wd → Option α} {i : Instr} {pc : Nat} {ls : Lv} {st : List Value} {w : Wd} (hi : isPl i = true) :
    lstep P Q sc mi me rt cc cl k i pc ls st w = match pstep i pc ls st with | some (pc', ls', st') => k pc' ls' st' w | none => none := by
  cases i <;> first | (cases hi; done) | rfl
def psl (kx : List (Nat × Value)) (cd : Cd) : Nat → Nat → Lv → List Value → Option (Nat × Lv × List Value)
  | 0, pc, ls, st => some (pc, ls, st)
  | n + 1, pc, ls, st => match fetch cd pc with
    | none => none
    | some (i, _) => match i with
      | .ldc x => (match asc kx x with | some (.int z) => psl kx cd n (pc + 2) ls (.int z :: st) | _ => none)
      | .ldc2_w x => (match asc kx x with | some (.long z) => psl kx cd n (pc + 3) ls (.long z :: st) | _ => none)
      | i => if isPl i = true then (match pstep i pc ls st with | some (pc', ls', st') => psl kx cd n pc' ls' st' | none => none) else none
theorem wpl_sl {P : Cl} {Q : Lw} {sc : Sc} {mi : Nat} {me : Me} {w : Wd} {R : Option Value → Wd → Prop} : ∀ {n pc pc' : Nat} {ls ls' : Lv} {st st' : List Value}, psl Q.kx me.cd n pc ls st = some (pc', ls', st') → wpl P Q sc mi me pc' ls' st' w R → wpl P Q sc mi me pc ls st w R := by
  intro n
  induction n with
  | zero => intro pc pc' ls ls' st st' h hq; cases h; exact hq
  | succ n ih =>
    intro pc pc' ls ls' st st' h hq
    simp only [psl] at h
    split at h
    · cases h
    · rename_i i m hf
      split at h
      · split at h
        · rename_i z e
          exact wpl_one hf (fun rt cc cl k => by simp only [lstep, e]) (ih h hq)
        · cases h
      · split at h
        · rename_i z e
          exact wpl_one hf (fun rt cc cl k => by simp only [lstep, e]) (ih h hq)
        · cases h
      · split at h
        · rename_i hi
          split at h
          · rename_i pc1 ls1 st1 e
            exact wpl_one hf (fun rt cc cl k => by rw [lstep_pl hi, e]) (ih h hq)
          · cases h
        · cases h
theorem wpl_ret {P : Cl} {Q : Lw} {sc : Sc} {mi : Nat} {me : Me} {pc : Nat} {ls : Lv} {st : List Value} {w : Wd} {R : Option Value → Wd → Prop} {i : Instr} {n : Nat} {v : Option Value} (hf : fetch me.cd pc = some (i, n)) (hr : isRet i = true) (h : cret me st i = some v) (hq : R v w) : wpl P Q sc mi me pc ls st w R := by
  refine ⟨1, v, w, ?_, hq⟩
  rw [lexec, hf]; dsimp only
  cases i <;> first | (cases hr; done) | (simp only [lstep]; rw [if_pos hr, h])
theorem wpl_if {P : Cl} {Q : Lw} {sc : Sc} {mi : Nat} {me : Me} {pc a b : Nat} {ls : Lv} {r : List Value} {w : Wd} {R : Option Value → Wd → Prop} {cd : ClassFile.Cond} {o : Int} {n : Nat} {x : Int32} (hf : fetch me.cd pc = some (.ifCond cd o, n)) (ho : 0 ≤ (pc : Int) + o) (ha : jmp pc o = a) (hb : pc + 3 = b)
    (hq : wpl P Q sc mi me (br cd x 0 a b) ls r w R) : wpl P Q sc mi me pc ls (.int x :: r) w R := by
  subst ha hb
  refine wpl_one hf (fun rt cc cl k => ?_) hq
  rw [lstep_pl rfl]
  simp only [pstep, qstep]; rw [if_pos ho]
theorem wpl_icmp {P : Cl} {Q : Lw} {sc : Sc} {mi : Nat} {me : Me} {pc a b : Nat} {ls : Lv} {r : List Value} {w : Wd} {R : Option Value → Wd → Prop} {cd : ClassFile.Cond} {o : Int} {n : Nat} {x y : Int32} (hf : fetch me.cd pc = some (.if_icmp cd o, n)) (ho : 0 ≤ (pc : Int) + o) (ha : jmp pc o = a) (hb : pc + 3 = b)
    (hq : wpl P Q sc mi me (br cd x y a b) ls r w R) : wpl P Q sc mi me pc ls (.int y :: .int x :: r) w R := by
  subst ha hb
  refine wpl_one hf (fun rt cc cl k => ?_) hq
  rw [lstep_pl rfl]
  simp only [pstep, qstep]; rw [if_pos ho]
theorem wpl_br {P : Cl} {Q : Lw} {sc : Sc} {mi : Nat} {me : Me} {a b : Nat} {ls : Lv} {st : List Value} {w : Wd} {R : Option Value → Wd → Prop} {p : Prop} [Decidable p] (h : (p → wpl P Q sc mi me a ls st w R) ∧ (¬ p → wpl P Q sc mi me b ls st w R)) : wpl P Q sc mi me (if p then a else b) ls st w R := by
  by_cases hp : p
  · rw [if_pos hp]; exact h.1 hp
  · rw [if_neg hp]; exact h.2 hp
theorem wpl_lda {P : Cl} {Q : Lw} {N : Nat} {g : Nat → Int32} {mi : Nat} {me : Me} {pc : Nat} {ls : Lv} {r : List Value} {w : Wd} {R : Option Value → Wd → Prop} {n : Nat} {j : Int32} (hf : fetch me.cd pc = some (.iaload, n)) (hj : inb N j) (hq : wpl P Q (some (N, g)) mi me (pc + 1) ls (.int (g (ix j)) :: r) w R) : wpl P Q (some (N, g)) mi me pc ls (.int j :: .ref 0 :: r) w R := by
  refine wpl_one hf (fun rt cc cl k => ?_) hq
  simp only [lstep]; rw [if_pos hj]
theorem wpl_len {P : Cl} {Q : Lw} {N : Nat} {g : Nat → Int32} {mi : Nat} {me : Me} {pc : Nat} {ls : Lv} {r : List Value} {w : Wd} {R : Option Value → Wd → Prop} {n : Nat} (hf : fetch me.cd pc = some (.arraylength, n)) (hq : wpl P Q (some (N, g)) mi me (pc + 1) ls (.int (Int32.ofNat N) :: r) w R) : wpl P Q (some (N, g)) mi me pc ls (.ref 0 :: r) w R := by
  refine wpl_one hf (fun rt cc cl k => ?_) hq
  simp only [lstep]
theorem wpl_new {P : Cl} {Q : Lw} {sc : Sc} {me : Me} {pc cnt : Nat} {ls : Lv} {st : List Value} {os : Nat → St} {R : Option Value → Wd → Prop} {n x : Nat} (hf : fetch me.cd pc = some (.new x, n)) (hx : x = Q.cx) (h1 : (cnt + 1) * (P.al.length + 1) ≤ Q.rc) (h2 : (cnt + 1) * (Q.nf + zs P.al P.al.length) ≤ Q.rs)
    (hq : wpl P Q sc 0 me (pc + 3) ls (.ref (cnt + 1) :: st) (uo os cnt s0, cnt, true) R) : wpl P Q sc 0 me pc ls st (os, cnt, false) R := by
  refine wpl_one hf (fun rt cc cl k => ?_) hq
  simp only [lstep]; rw [if_pos ⟨trivial, hx, trivial, h1, h2⟩]
theorem wpl_ctor {P : Cl} {Q : Lw} {sc : Sc} {me me' : Me} {pc cnt : Nat} {ls : Lv} {st r as : List Value} {os : Nat → St} {R : Option Value → Wd → Prop} {n x : Nat} (hf : fetch me.cd pc = some (.invokespecial x, n)) (hx : x = Q.ci) (hme : asc P.ms 0 = some me') (hst : st.drop me'.na = .ref (cnt + 1) :: r) (has : (st.take me'.na).reverse = as)
    (hg : me'.rf + 1 ≤ me.rf ∧ cats r + (me'.ml + 11) + me'.rl ≤ me.rl ∧ nr (st.take me'.na) = true ∧ (cnt + 1) * (P.al.length + 1) ≤ Q.rc ∧ (cnt + 1) * (Q.nf + zs P.al P.al.length) ≤ Q.rs)
    (hq : calV P 0 0 (.ref 0 :: as) (os cnt) fun s' => wpl P Q sc 0 me (pc + 3) ls r (uo os cnt s', cnt + 1, false) R) : wpl P Q sc 0 me pc ls st (os, cnt, true) R := by
  subst has
  obtain ⟨f1, v, s1, h1, rfl, f2, v2, s2, h2, h3⟩ := hq
  refine ⟨max f1 f2 + 1, v2, s2, ?_, h3⟩
  have h1' := ccall_le (Nat.le_max_left f1 f2) h1
  have h2' := lexec_le (Nat.le_max_right f1 f2) h2
  rw [lexec, hf]; dsimp only
  simp only [lstep, hme, hst]
  rw [if_pos ⟨hx, trivial, trivial, trivial, hg⟩, h1']
  exact h2'
theorem wpl_call {P : Cl} {Q : Lw} {sc : Sc} {mi : Nat} {me me' : Me} {pc x m' o : Nat} {ls : Lv} {st r as : List Value} {w : Wd} {R : Option Value → Wd → Prop} {n : Nat} (hf : fetch me.cd pc = some (.invokevirtual x, n)) (hm : asc Q.vx x = some m') (hme : asc P.ms m' = some me') (hst : st.drop me'.na = .ref (o + 1) :: r) (has : (st.take me'.na).reverse = as)
    (hg : m' ≠ 0 ∧ o < w.2.1 ∧ me'.rf + 1 ≤ me.rf ∧ cats r + (me'.ml + 11) + me'.rl ≤ me.rl ∧ nr (st.take me'.na) = true)
    (hq : cal P m' P.al.length (.ref 0 :: as) (w.1 o) fun v s' => wpl P Q sc mi me (pc + 3) ls (v.toList ++ r) (uo w.1 o s', w.2.1, w.2.2) R) : wpl P Q sc mi me pc ls st w R := by
  subst has
  obtain ⟨f1, v, s1, h1, f2, v2, s2, h2, h3⟩ := hq
  refine ⟨max f1 f2 + 1, v2, s2, ?_, h3⟩
  have h1' := ccall_le (Nat.le_max_left f1 f2) h1
  have h2' := lexec_le (Nat.le_max_right f1 f2) h2
  rw [lexec, hf]; dsimp only
  simp only [lstep, hm, hme, hst]
  rw [if_pos hg, h1']
  cases v <;> exact h2'
theorem wpl_stat {P : Cl} {Q : Lw} {sc : Sc} {mi : Nat} {me me' : Me} {pc x m' : Nat} {ls : Lv} {st r as : List Value} {w : Wd} {R : Option Value → Wd → Prop} {n : Nat} (hf : fetch me.cd pc = some (.invokestatic x, n)) (hm : asc Q.sx x = some m') (hme : asc Q.ms m' = some me') (hst : st.drop me'.na = r) (has : (st.take me'.na).reverse = as)
    (hg : m' ≠ 0 ∧ me'.na ≤ st.length ∧ me'.rf + 1 ≤ me.rf ∧ cats r + (me'.ml + 11) + me'.rl ≤ me.rl ∧ nd (st.take me'.na) = true)
    (hq : lal P Q sc m' as w fun v w' => wpl P Q sc mi me (pc + 3) ls (v.toList ++ r) w' R) : wpl P Q sc mi me pc ls st w R := by
  subst has hst
  obtain ⟨f1, v, s1, h1, f2, v2, s2, h2, h3⟩ := hq
  refine ⟨max f1 f2 + 1, v2, s2, ?_, h3⟩
  have h1' := lcall_le (Nat.le_max_left f1 f2) h1
  have h2' := lexec_le (Nat.le_max_right f1 f2) h2
  rw [lexec, hf]; dsimp only
  simp only [lstep, hm, hme]
  rw [if_pos hg]
  simp only [lcall, hme] at h1'
  rw [h1']
  cases v <;> exact h2'
theorem lal_of {P : Cl} {Q : Lw} {sc : Sc} {m' : Nat} {as : List Value} {w : Wd} {R : Option Value → Wd → Prop} {me : Me} {ls : Lv} (hme : asc Q.ms m' = some me) (hl : (layA as).length ≤ me.ml) (hls : lay as me.ml = ls) (h : wpl P Q sc m' me 0 ls [] w R) : lal P Q sc m' as w R := by
  subst hls
  obtain ⟨f, v, s', h1, h2⟩ := h
  refine ⟨f, v, s', ?_, h2⟩
  simp only [lcall, hme]; rw [if_pos hl]; exact h1
theorem lstep_lle {P : Cl} {Q : Lw} {sc : Sc} {mi : Nat} {me : Me} {rt : Option Value → Wd → Rw} {cc : Nat → Nat → List Value → St → Rs} {cl : Nat → List Value → Wd → Rw} {k : Nat → Lv → List Value → Wd → Rw} {i : Instr} {pc : Nat} {ls ls' : Lv} {st : List Value} {w : Wd} {r : Option Value × Wd} (hl : lle ls ls')
    (hk : ∀ pc ls ls' st s, lle ls ls' → k pc ls st s = some r → k pc ls' st s = some r) (h : lstep P Q sc mi me rt cc cl k i pc ls st w = some r) : lstep P Q sc mi me rt cc cl k i pc ls' st w = some r := by
  unfold lstep at h ⊢
  split at h
  all_goals (try dsimp only)
  · split at h
    · split at h
      · rename_i q; rw [if_pos q]; exact hk _ _ _ _ _ hl h
      · cases h
    · cases h
  iterate 3
    · split at h
      · exact hk _ _ _ _ _ hl h
      · cases h
  · split at h
    · rename_i q; rw [if_pos q]; exact hk _ _ _ _ _ hl h
    · cases h
  · split at h
    · cases h
    · split at h
      · split at h
        · rename_i q
          rw [if_pos q]
          split at h
          · exact hk _ _ _ _ _ hl h
          · cases h
        · cases h
      · cases h
  · split at h
    · cases h
    · split at h
      · cases h
      · split at h
        · split at h
          · rename_i q
            rw [if_pos q]
            split at h
            · exact hk _ _ _ _ _ hl h
            · exact hk _ _ _ _ _ hl h
            · cases h
          · cases h
        · cases h
  · split at h
    · cases h
    · split at h
      · cases h
      · split at h
        · rename_i q
          rw [if_pos q]
          split at h
          · exact hk _ _ _ _ _ hl h
          · exact hk _ _ _ _ _ hl h
          · cases h
        · cases h
  · split at h
    · rename_i q; rw [if_pos q]; exact h
    · rename_i q; rw [if_neg q]
      split at h
      · rename_i e
        obtain ⟨l1', q1, q2⟩ := pstep_lle e hl
        rw [q1]; exact hk _ _ _ _ _ q2 h
      · cases h
theorem lexec_lle {P : Cl} {Q : Lw} {sc : Sc} : ∀ f mi me pc ls ls' st w r, lle ls ls' → lexec P Q sc f mi me pc ls st w = some r → lexec P Q sc f mi me pc ls' st w = some r := by
  intro f
  induction f with
  | zero => intro mi me pc ls ls' st w r _ h; cases h
  | succ f ih =>
    intro mi me pc ls ls' st w r hl h
    rw [lexec] at h ⊢
    split at h
    · cases h
    · exact lstep_lle hl (fun pc ls ls' st s hl h => ih _ _ _ _ _ _ _ _ hl h) h
theorem wpl_lle {P : Cl} {Q : Lw} {sc : Sc} {mi : Nat} {me : Me} {pc : Nat} {ls ls' : Lv} {st : List Value} {w : Wd} {R : Option Value → Wd → Prop} (hl : lle' ls ls') (h : wpl P Q sc mi me pc ls st w R) : wpl P Q sc mi me pc ls' st w R := by
  obtain ⟨f, v, s', h1, h2⟩ := h; exact ⟨f, v, s', lexec_lle _ _ _ _ _ _ _ _ _ (lle_of hl) h1, h2⟩
/-! worlds of no, one and two objects -/
def W0 : Wd := (fun _ => s0, 0, false)
def W0p : Wd := (uo (fun _ => s0) 0 s0, 0, true)
def W1 (s : St) : Wd := (uo (fun _ => s0) 0 s, 1, false)
def W1p (s : St) : Wd := (uo (uo (fun _ => s0) 0 s) 1 s0, 1, true)
def W2 (s t : St) : Wd := (uo (uo (fun _ => s0) 0 s) 1 t, 2, false)
theorem uo_uo (f : Nat → St) (o : Nat) (s t : St) : uo (uo f o s) o t = uo f o t := by
  funext i; simp only [uo]; split <;> rfl
theorem uo_swap (f : Nat → St) {o o' : Nat} (h : o ≠ o') (s t : St) : uo (uo f o s) o' t = uo (uo f o' t) o s := by
  funext i; simp only [uo]
  by_cases a : i = o
  · subst a; simp [h]
  · by_cases b : i = o'
    · subst b; simp [Ne.symm h]
    · simp [a, b]
section Worlds
variable {P : Cl} {Q : Lw} {sc : Sc} {mi : Nat} {me me' : Me} {pc x m' : Nat} {ls : Lv} {st r as : List Value} {R : Option Value → Wd → Prop} {n : Nat} {s t : St}
theorem wpl_new0 (hf : fetch me.cd pc = some (.new x, n)) (hx : x = Q.cx) (h1 : 1 * (P.al.length + 1) ≤ Q.rc) (h2 : 1 * (Q.nf + zs P.al P.al.length) ≤ Q.rs) (hq : wpl P Q sc 0 me (pc + 3) ls (.ref 1 :: st) W0p R) : wpl P Q sc 0 me pc ls st W0 R := wpl_new (cnt := 0) hf hx h1 h2 hq
theorem wpl_new1 (hf : fetch me.cd pc = some (.new x, n)) (hx : x = Q.cx) (h1 : 2 * (P.al.length + 1) ≤ Q.rc) (h2 : 2 * (Q.nf + zs P.al P.al.length) ≤ Q.rs) (hq : wpl P Q sc 0 me (pc + 3) ls (.ref 2 :: st) (W1p s) R) : wpl P Q sc 0 me pc ls st (W1 s) R := wpl_new (cnt := 1) hf hx h1 h2 hq
theorem wpl_ctor0 (hf : fetch me.cd pc = some (.invokespecial x, n)) (hx : x = Q.ci) (hme : asc P.ms 0 = some me') (hst : st.drop me'.na = .ref 1 :: r) (has : (st.take me'.na).reverse = as)
    (hg : me'.rf + 1 ≤ me.rf ∧ cats r + (me'.ml + 11) + me'.rl ≤ me.rl ∧ nr (st.take me'.na) = true ∧ 1 * (P.al.length + 1) ≤ Q.rc ∧ 1 * (Q.nf + zs P.al P.al.length) ≤ Q.rs)
    (hq : calV P 0 0 (.ref 0 :: as) s0 fun s' => wpl P Q sc 0 me (pc + 3) ls r (W1 s') R) : wpl P Q sc 0 me pc ls st W0p R := by
  refine wpl_ctor (cnt := 0) hf hx hme hst has hg ?_
  refine calV.mono (show calV P 0 0 (.ref 0 :: as) (uo (fun _ => s0) 0 s0 0) _ from hq) fun s' h => ?_
  rw [uo_uo]; exact h
theorem wpl_ctor1 (hf : fetch me.cd pc = some (.invokespecial x, n)) (hx : x = Q.ci) (hme : asc P.ms 0 = some me') (hst : st.drop me'.na = .ref 2 :: r) (has : (st.take me'.na).reverse = as)
    (hg : me'.rf + 1 ≤ me.rf ∧ cats r + (me'.ml + 11) + me'.rl ≤ me.rl ∧ nr (st.take me'.na) = true ∧ 2 * (P.al.length + 1) ≤ Q.rc ∧ 2 * (Q.nf + zs P.al P.al.length) ≤ Q.rs)
    (hq : calV P 0 0 (.ref 0 :: as) s0 fun s' => wpl P Q sc 0 me (pc + 3) ls r (W2 s s') R) : wpl P Q sc 0 me pc ls st (W1p s) R := by
  refine wpl_ctor (cnt := 1) hf hx hme hst has hg ?_
  refine calV.mono (show calV P 0 0 (.ref 0 :: as) (uo (uo (fun _ => s0) 0 s) 1 s0 1) _ from hq) fun s' h => ?_
  rw [uo_uo]; exact h
theorem wpl_v1 (hf : fetch me.cd pc = some (.invokevirtual x, n)) (hm : asc Q.vx x = some m') (hme : asc P.ms m' = some me') (hst : st.drop me'.na = .ref 1 :: r) (has : (st.take me'.na).reverse = as)
    (hg : m' ≠ 0 ∧ me'.rf + 1 ≤ me.rf ∧ cats r + (me'.ml + 11) + me'.rl ≤ me.rl ∧ nr (st.take me'.na) = true)
    (hq : cal P m' P.al.length (.ref 0 :: as) s fun v s' => wpl P Q sc mi me (pc + 3) ls (v.toList ++ r) (W1 s') R) : wpl P Q sc mi me pc ls st (W1 s) R := by
  refine wpl_call (o := 0) hf hm hme hst has ⟨hg.1, by show 0 < 1; decide, hg.2⟩ ?_
  refine cal.mono (show cal P m' P.al.length (.ref 0 :: as) ((W1 s).1 0) _ from hq) fun v s' h => ?_
  show wpl P Q sc mi me (pc + 3) ls (v.toList ++ r) (uo (uo (fun _ => s0) 0 s) 0 s', 1, false) R
  rw [uo_uo]; exact h
theorem wpl_v2a (hf : fetch me.cd pc = some (.invokevirtual x, n)) (hm : asc Q.vx x = some m') (hme : asc P.ms m' = some me') (hst : st.drop me'.na = .ref 1 :: r) (has : (st.take me'.na).reverse = as)
    (hg : m' ≠ 0 ∧ me'.rf + 1 ≤ me.rf ∧ cats r + (me'.ml + 11) + me'.rl ≤ me.rl ∧ nr (st.take me'.na) = true)
    (hq : cal P m' P.al.length (.ref 0 :: as) s fun v s' => wpl P Q sc mi me (pc + 3) ls (v.toList ++ r) (W2 s' t) R) : wpl P Q sc mi me pc ls st (W2 s t) R := by
  refine wpl_call (o := 0) hf hm hme hst has ⟨hg.1, by show 0 < 2; decide, hg.2⟩ ?_
  refine cal.mono (show cal P m' P.al.length (.ref 0 :: as) ((W2 s t).1 0) _ from hq) fun v s' h => ?_
  show wpl P Q sc mi me (pc + 3) ls (v.toList ++ r) (uo (uo (uo (fun _ => s0) 0 s) 1 t) 0 s', 2, false) R
  rw [uo_swap _ (by decide), uo_uo]; exact h
theorem wpl_v2b (hf : fetch me.cd pc = some (.invokevirtual x, n)) (hm : asc Q.vx x = some m') (hme : asc P.ms m' = some me') (hst : st.drop me'.na = .ref 2 :: r) (has : (st.take me'.na).reverse = as)
    (hg : m' ≠ 0 ∧ me'.rf + 1 ≤ me.rf ∧ cats r + (me'.ml + 11) + me'.rl ≤ me.rl ∧ nr (st.take me'.na) = true)
    (hq : cal P m' P.al.length (.ref 0 :: as) t fun v s' => wpl P Q sc mi me (pc + 3) ls (v.toList ++ r) (W2 s s') R) : wpl P Q sc mi me pc ls st (W2 s t) R := by
  refine wpl_call (o := 1) hf hm hme hst has ⟨hg.1, by show 1 < 2; decide, hg.2⟩ ?_
  refine cal.mono (show cal P m' P.al.length (.ref 0 :: as) ((W2 s t).1 1) _ from hq) fun v s' h => ?_
  show wpl P Q sc mi me (pc + 3) ls (v.toList ++ r) (uo (uo (uo (fun _ => s0) 0 s) 1 t) 1 s', 2, false) R
  rw [uo_uo]; exact h
end Worlds
theorem cal_I {P : Cl} {m' c : Nat} {as : List Value} {s : St} {F : Option Value → St → Prop} (h : calI P m' c as s fun v s' => F (some (.int v)) s') : cal P m' c as s F := cal.mono h fun _ _ ⟨v, e, q⟩ => by subst e; exact q
theorem cal_L {P : Cl} {m' c : Nat} {as : List Value} {s : St} {F : Option Value → St → Prop} (h : calL P m' c as s fun v s' => F (some (.long v)) s') : cal P m' c as s F := cal.mono h fun _ _ ⟨v, e, q⟩ => by subst e; exact q
theorem cal_V {P : Cl} {m' c : Nat} {as : List Value} {s : St} {F : Option Value → St → Prop} (h : calV P m' c as s fun s' => F none s') : cal P m' c as s F := cal.mono h fun _ _ ⟨e, q⟩ => by subst e; exact q
theorem lal_I {P : Cl} {Q : Lw} {sc : Sc} {m' : Nat} {as : List Value} {w : Wd} {F : Option Value → Wd → Prop} (h : lalI P Q sc m' as w fun v w' => F (some (.int v)) w') : lal P Q sc m' as w F := lal.mono h fun _ _ ⟨v, e, q⟩ => by subst e; exact q
theorem lal_L {P : Cl} {Q : Lw} {sc : Sc} {m' : Nat} {as : List Value} {w : Wd} {F : Option Value → Wd → Prop} (h : lalL P Q sc m' as w fun v w' => F (some (.long v)) w') : lal P Q sc m' as w F := lal.mono h fun _ _ ⟨v, e, q⟩ => by subst e; exact q
theorem lal_V {P : Cl} {Q : Lw} {sc : Sc} {m' : Nat} {as : List Value} {w : Wd} {F : Option Value → Wd → Prop} (h : lalV P Q sc m' as w fun w' => F none w') : lal P Q sc m' as w F := lal.mono h fun _ _ ⟨e, q⟩ => by subst e; exact q
end Jvm.LM

namespace Jvm.LM
open Sem ClassFile Op Lib Jvm.Stand Jvm.Free Jvm.LawKit Jvm.RoadKit
/-! rules for the steps that ask something -/
abbrev wpcI (P : Cl) (mi : Nat) (me : Me) (c pc : Nat) (ls : Lv) (st : List Value) (s : St) (Q : Int32 → St → Prop) : Prop := wpc P mi me c pc ls st s fun r s' => ∃ v, r = some (.int v) ∧ Q v s'
abbrev wpcL (P : Cl) (mi : Nat) (me : Me) (c pc : Nat) (ls : Lv) (st : List Value) (s : St) (Q : Int64 → St → Prop) : Prop := wpc P mi me c pc ls st s fun r s' => ∃ v, r = some (.long v) ∧ Q v s'
abbrev wpcV (P : Cl) (mi : Nat) (me : Me) (c pc : Nat) (ls : Lv) (st : List Value) (s : St) (Q : St → Prop) : Prop := wpc P mi me c pc ls st s fun r s' => r = none ∧ Q s'
abbrev wplI (P : Cl) (Q : Lw) (sc : Sc) (mi : Nat) (me : Me) (pc : Nat) (ls : Lv) (st : List Value) (w : Wd) (R : Int32 → Wd → Prop) : Prop := wpl P Q sc mi me pc ls st w fun r w' => ∃ v, r = some (.int v) ∧ R v w'
abbrev wplL (P : Cl) (Q : Lw) (sc : Sc) (mi : Nat) (me : Me) (pc : Nat) (ls : Lv) (st : List Value) (w : Wd) (R : Int64 → Wd → Prop) : Prop := wpl P Q sc mi me pc ls st w fun r w' => ∃ v, r = some (.long v) ∧ R v w'
abbrev wplV (P : Cl) (Q : Lw) (sc : Sc) (mi : Nat) (me : Me) (pc : Nat) (ls : Lv) (st : List Value) (w : Wd) (R : Wd → Prop) : Prop := wpl P Q sc mi me pc ls st w fun r w' => r = none ∧ R w'
section C
variable {P : Cl} {mi : Nat} {me : Me} {c pc a N n : Nat} {ls : Lv} {r : List Value} {s s' : St} {Q : Option Value → St → Prop} {j : Int32}
theorem wpc_ldaI {v : Int32} (hf : fetch me.cd pc = some (.iaload, n)) (ha : P.al[a]? = some (0, N)) (hac : a < c) (hj : inb N j) (hv : gI s (a + 1) (ix j) = v) (hq : wpc P mi me c (pc + 1) ls (.int v :: r) s Q) : wpc P mi me c pc ls (.int j :: .ref (a + 1) :: r) s Q := by
  subst hv; exact wpc_lda hf (Or.inl ⟨rfl, rfl⟩) ha hac hj hq
theorem wpc_ldaZ {v : Int32} (hf : fetch me.cd pc = some (.baload, n)) (ha : P.al[a]? = some (1, N)) (hac : a < c) (hj : inb N j) (hv : gI s (a + 1) (ix j) = v) (hq : wpc P mi me c (pc + 1) ls (.int v :: r) s Q) : wpc P mi me c pc ls (.int j :: .ref (a + 1) :: r) s Q := by
  subst hv; exact wpc_lda hf (Or.inr (Or.inl ⟨rfl, rfl⟩)) ha hac hj hq
theorem wpc_ldaJ {v : Int64} (hf : fetch me.cd pc = some (.laload, n)) (ha : P.al[a]? = some (2, N)) (hac : a < c) (hj : inb N j) (hv : gL s (a + 1) (ix j) = v) (hq : wpc P mi me c (pc + 1) ls (.long v :: r) s Q) : wpc P mi me c pc ls (.int j :: .ref (a + 1) :: r) s Q := by
  subst hv; exact wpc_lda hf (Or.inr (Or.inr ⟨rfl, rfl⟩)) ha hac hj hq
theorem wpc_staI {z : Int32} (hf : fetch me.cd pc = some (.iastore, n)) (ha : P.al[a]? = some (0, N)) (hac : a < c) (hj : inb N j) (hs : sI s (a + 1) (ix j) z = s') (hq : wpc P mi me c (pc + 1) ls r s' Q) : wpc P mi me c pc ls (.int z :: .int j :: .ref (a + 1) :: r) s Q :=
  wpc_sta hf (Or.inl ⟨rfl, rfl, z, rfl, hs.symm⟩) ha hac hj hq
theorem wpc_staZ {z : Int32} (hf : fetch me.cd pc = some (.bastore, n)) (ha : P.al[a]? = some (1, N)) (hac : a < c) (hj : inb N j) (hs : sI s (a + 1) (ix j) (z &&& 1) = s') (hq : wpc P mi me c (pc + 1) ls r s' Q) : wpc P mi me c pc ls (.int z :: .int j :: .ref (a + 1) :: r) s Q :=
  wpc_sta hf (Or.inr (Or.inl ⟨rfl, rfl, z, rfl, hs.symm⟩)) ha hac hj hq
theorem wpc_staJ {z : Int64} (hf : fetch me.cd pc = some (.lastore, n)) (ha : P.al[a]? = some (2, N)) (hac : a < c) (hj : inb N j) (hs : sL s (a + 1) (ix j) z = s') (hq : wpc P mi me c (pc + 1) ls r s' Q) : wpc P mi me c pc ls (.long z :: .int j :: .ref (a + 1) :: r) s Q :=
  wpc_sta hf (Or.inr (Or.inr ⟨rfl, rfl, z, rfl, hs.symm⟩)) ha hac hj hq
theorem wpc_pl {i : Instr} {pc' : Nat} {ls' : Lv} {st st' : List Value} (hf : fetch me.cd pc = some (i, n)) (hi : ∀ (rt : Option Value → St → Rs) cl (k : Nat → Nat → Lv → List Value → St → Rs), cstep P mi me rt cl k i c pc ls st s = match pstep i pc ls st with | some (pc', ls', st') => k c pc' ls' st' s | none => none) (h : pstep i pc ls st = some (pc', ls', st')) (hq : wpc P mi me c pc' ls' st' s Q) : wpc P mi me c pc ls st s Q :=
  wpc_one hf (fun rt cl k => by rw [hi, h]) hq
theorem wpc_idiv {x y : Int32} (hf : fetch me.cd pc = some (.idiv, n)) (hy : ¬ y = 0) (hq : wpc P mi me c (pc + 1) ls (.int (x / y) :: r) s Q) : wpc P mi me c pc ls (.int y :: .int x :: r) s Q :=
  wpc_pl hf (fun _ _ _ => rfl) (by simp only [pstep, qstep]; rw [if_neg hy]) hq
theorem wpc_irem {x y : Int32} (hf : fetch me.cd pc = some (.irem, n)) (hy : ¬ y = 0) (hq : wpc P mi me c (pc + 1) ls (.int (x % y) :: r) s Q) : wpc P mi me c pc ls (.int y :: .int x :: r) s Q :=
  wpc_pl hf (fun _ _ _ => rfl) (by simp only [pstep, qstep]; rw [if_neg hy]) hq
theorem wpc_ldiv {x y : Int64} (hf : fetch me.cd pc = some (.ldiv, n)) (hy : ¬ y = 0) (hq : wpc P mi me c (pc + 1) ls (.long (x / y) :: r) s Q) : wpc P mi me c pc ls (.long y :: .long x :: r) s Q :=
  wpc_pl hf (fun _ _ _ => rfl) (by simp only [pstep, qstep]; rw [if_neg hy]) hq
end C
/-- the roads of a switch: one a value, from l on -/
def TS (x : Int32) (F : Int → Prop) : List Int → Int → Prop
  | [], _ => True
  | o :: r, l => (x.toInt = l → F o) ∧ TS x F r (l + 1)
theorem TS_at {x : Int32} {F : Int → Prop} : ∀ {os : List Int} {l : Int}, TS x F os l → l ≤ x.toInt → x.toInt < l + os.length → ∃ o, os[(x.toInt - l).toNat]? = some o ∧ F o := by
  intro os
  induction os with
  | nil => intro l _ h1 h2; simp at h2; omega
  | cons o r ih =>
    intro l h h1 h2
    by_cases e : x.toInt = l
    · exact ⟨o, by rw [e]; simp, h.1 e⟩
    · obtain ⟨o', q1, q2⟩ := ih h.2 (by omega) (by simp at h2; omega)
      refine ⟨o', ?_, q2⟩
      have : (x.toInt - l).toNat = (x.toInt - (l + 1)).toNat + 1 := by omega
      rw [this]; simpa using q1
theorem tsw_ok {x : Int32} {F : Int → Prop} {pc : Nat} {ls : Lv} {r : List Value} {d lo hi : Int} {offs : Array Int} (hd : 0 ≤ (pc : Int) + d) (ho : ∀ o ∈ offs.toList, 0 ≤ (pc : Int) + o) (hh : hi + 1 = lo + offs.toList.length)
    (h1 : TS x F offs.toList lo) (h2 : (x.toInt < lo ∨ x.toInt > hi) → F d) : ∃ o, F o ∧ pstep (.tableswitch d lo hi offs) pc ls (.int x :: r) = some (jmp pc o, ls, r) := by
  by_cases hx : x.toInt < lo ∨ x.toInt > hi
  · refine ⟨d, h2 hx, ?_⟩
    simp only [pstep, qstep]; rw [if_pos hx, if_pos hd]
  · obtain ⟨o, q1, q2⟩ := TS_at h1 (by omega) (by omega)
    have q3 : offs[(x.toInt - lo).toNat]? = some o := by rw [← Array.getElem?_toList]; exact q1
    refine ⟨o, q2, ?_⟩
    simp only [pstep, qstep]; rw [if_neg hx, q3]; dsimp only; rw [if_pos (ho o (List.mem_of_getElem? q1))]
theorem wpc_tsw {P : Cl} {mi : Nat} {me : Me} {c pc n : Nat} {ls : Lv} {r : List Value} {s : St} {Q : Option Value → St → Prop} {x : Int32} {d lo hi : Int} {offs : Array Int} (hf : fetch me.cd pc = some (.tableswitch d lo hi offs, n)) (hd : 0 ≤ (pc : Int) + d) (ho : ∀ o ∈ offs.toList, 0 ≤ (pc : Int) + o) (hh : hi + 1 = lo + offs.toList.length)
    (h1 : TS x (fun o => wpc P mi me c (jmp pc o) ls r s Q) offs.toList lo) (h2 : (x.toInt < lo ∨ x.toInt > hi) → wpc P mi me c (jmp pc d) ls r s Q) : wpc P mi me c pc ls (.int x :: r) s Q := by
  obtain ⟨o, q1, q2⟩ := tsw_ok (ls := ls) (r := r) hd ho hh h1 h2
  exact wpc_pl hf (fun _ _ _ => rfl) q2 q1
section L
variable {P : Cl} {Q : Lw} {sc : Sc} {mi : Nat} {me : Me} {pc n : Nat} {ls : Lv} {r : List Value} {w : Wd} {R : Option Value → Wd → Prop}
theorem wpl_pl {i : Instr} {pc' : Nat} {ls' : Lv} {st st' : List Value} (hf : fetch me.cd pc = some (i, n)) (hi : isPl i = true) (h : pstep i pc ls st = some (pc', ls', st')) (hq : wpl P Q sc mi me pc' ls' st' w R) : wpl P Q sc mi me pc ls st w R :=
  wpl_one hf (fun rt cc cl k => by rw [lstep_pl hi, h]) hq
theorem wpl_idiv {x y : Int32} (hf : fetch me.cd pc = some (.idiv, n)) (hy : ¬ y = 0) (hq : wpl P Q sc mi me (pc + 1) ls (.int (x / y) :: r) w R) : wpl P Q sc mi me pc ls (.int y :: .int x :: r) w R :=
  wpl_pl hf rfl (by simp only [pstep, qstep]; rw [if_neg hy]) hq
theorem wpl_irem {x y : Int32} (hf : fetch me.cd pc = some (.irem, n)) (hy : ¬ y = 0) (hq : wpl P Q sc mi me (pc + 1) ls (.int (x % y) :: r) w R) : wpl P Q sc mi me pc ls (.int y :: .int x :: r) w R :=
  wpl_pl hf rfl (by simp only [pstep, qstep]; rw [if_neg hy]) hq
theorem wpl_ldiv {x y : Int64} (hf : fetch me.cd pc = some (.ldiv, n)) (hy : ¬ y = 0) (hq : wpl P Q sc mi me (pc + 1) ls (.long (x / y) :: r) w R) : wpl P Q sc mi me pc ls (.long y :: .long x :: r) w R :=
  wpl_pl hf rfl (by simp only [pstep, qstep]; rw [if_neg hy]) hq
theorem wpl_tsw {x : Int32} {d lo hi : Int} {offs : Array Int} (hf : fetch me.cd pc = some (.tableswitch d lo hi offs, n)) (hd : 0 ≤ (pc : Int) + d) (ho : ∀ o ∈ offs.toList, 0 ≤ (pc : Int) + o) (hh : hi + 1 = lo + offs.toList.length)
    (h1 : TS x (fun o => wpl P Q sc mi me (jmp pc o) ls r w R) offs.toList lo) (h2 : (x.toInt < lo ∨ x.toInt > hi) → wpl P Q sc mi me (jmp pc d) ls r w R) : wpl P Q sc mi me pc ls (.int x :: r) w R := by
  obtain ⟨o, q1, q2⟩ := tsw_ok (ls := ls) (r := r) hd ho hh h1 h2
  exact wpl_pl hf rfl q2 q1
end L
/-! the links, by lists -/
def AllA {α : Type} (Q : Nat → α → Prop) : List (Nat × α) → Prop
  | [] => True
  | (a, b) :: r => Q a b ∧ AllA Q r
theorem asc_all {α : Type} {Q : Nat → α → Prop} {l : List (Nat × α)} (h : AllA Q l) : ∀ k v, asc l k = some v → Q k v := by
  induction l with
  | nil => intro k v e; cases e
  | cons x r ih =>
    intro k v e
    obtain ⟨a, b⟩ := x
    simp only [asc] at e
    cases q : Nat.beq a k
    · rw [q] at e; exact ih h.2 k v e
    · rw [q] at e; cases e
      obtain rfl := Nat.eq_of_beq_eq_true q
      exact h.1
def AllL (Q : Nat → Nat → Prop) : List (Nat × Nat) → Prop
  | [] => True
  | (a, b) :: r => Q a b ∧ AllL Q r
theorem lst_all {Q : Nat → Nat → Prop} {l : List (Nat × Nat)} (h : AllL Q l) : ∀ (j tt N : Nat), l[j]? = some (tt, N) → Q tt N := by
  induction l with
  | nil => intro j tt N e; simp at e
  | cons x r ih =>
    intro j tt N e
    obtain ⟨a, b⟩ := x
    cases j with
    | zero => simp at e; obtain ⟨rfl, rfl⟩ := e; exact h.1
    | succ j => simp at e; exact ih h.2 j tt N e
def dst1 (k : Nat) (fe : Fe) : List (Nat × Fe) → Bool
  | [] => true
  | (k', fe') :: r => (!(fe.1 == fe'.1)) && (decide (fe.2.2.1 < 3) || !(Nat.beq fe.2.2.1 fe'.2.2.1)) && dst1 k fe r
def dst : List (Nat × Fe) → Bool
  | [] => true
  | (k, fe) :: r => dst1 k fe r && dst r
theorem dst1_ok {k : Nat} {fe : Fe} {l : List (Nat × Fe)} (h : dst1 k fe l = true) : ∀ k' fe', asc l k' = some fe' → fe.1 ≠ fe'.1 ∧ (3 ≤ fe.2.2.1 → fe.2.2.1 ≠ fe'.2.2.1) := by
  induction l with
  | nil => intro k' fe' e; cases e
  | cons x r ih =>
    intro k' fe' e
    obtain ⟨a, b⟩ := x
    simp only [dst1, Bool.and_eq_true] at h
    obtain ⟨⟨h1, h2⟩, h3⟩ := h
    simp only [asc] at e
    cases q : Nat.beq a k'
    · rw [q] at e; exact ih h3 k' fe' e
    · rw [q] at e; cases e
      refine ⟨fun q2 => by rw [q2] at h1; simp at h1, fun q2 q3 => ?_⟩
      rw [q3] at h2 q2
      simp only [Bool.or_eq_true, decide_eq_true_eq, Bool.not_eq_true'] at h2
      rcases h2 with h2 | h2
      · omega
      · rw [Nat.beq_refl] at h2; cases h2
theorem dst_ok {l : List (Nat × Fe)} (h : dst l = true) : ∀ (k k' : Nat) (fe fe' : Fe), asc l k = some fe → asc l k' = some fe' → k ≠ k' → fe.1 ≠ fe'.1 ∧ (3 ≤ fe.2.2.1 → fe.2.2.1 ≠ fe'.2.2.1) := by
  induction l with
  | nil => intro k k' fe fe' e; cases e
  | cons x r ih =>
    intro k k' fe fe' e e' hne
    obtain ⟨a, b⟩ := x
    simp only [dst, Bool.and_eq_true] at h
    simp only [asc] at e e'
    cases q : Nat.beq a k <;> cases q' : Nat.beq a k' <;> rw [q] at e <;> rw [q'] at e'
    · exact ih h.2 k k' fe fe' e e' hne
    · cases e'
      obtain ⟨h1, h2⟩ := dst1_ok h.1 k fe e
      exact ⟨Ne.symm h1, fun z1 z2 => h2 (z2 ▸ z1) z2.symm⟩
    · cases e; exact dst1_ok h.1 k' fe' e'
    · exact absurd ((Nat.eq_of_beq_eq_true q).symm.trans (Nat.eq_of_beq_eq_true q')) hne
def chk (bytes : ByteArray) : Cd → Bool
  | [] => true
  | (pc, i, n) :: r => (match decode bytes pc with | .ok (i', n') => decide (i' = i ∧ n' = n) | .error _ => false) && (isSw i || Nat.beq n (ilen i)) && chk bytes r
theorem chk_ok {bytes : ByteArray} {cd : Cd} (h : chk bytes cd = true) : ∀ pc i n, fetch cd pc = some (i, n) → decode bytes pc = .ok (i, n) ∧ (isSw i = true ∨ n = ilen i) := by
  induction cd with
  | nil => intro pc i n e; cases e
  | cons x r ih =>
    intro pc i n e
    obtain ⟨a, i', n'⟩ := x
    simp only [chk, Bool.and_eq_true] at h
    obtain ⟨⟨h1, h2⟩, h3⟩ := h
    simp only [fetch] at e
    cases q : Nat.beq a pc
    · rw [q] at e; exact ih h3 pc i n e
    · rw [q] at e; cases e
      obtain rfl := Nat.eq_of_beq_eq_true q
      refine ⟨?_, ?_⟩
      · split at h1
        · rename_i i2 n2 hd
          obtain ⟨rfl, rfl⟩ := of_decide_eq_true h1
          exact hd
        · cases h1
      · simp only [Bool.or_eq_true] at h2
        exact h2.imp id Nat.eq_of_beq_eq_true
/-- the array that the law is handed -/
theorem script_of {s : State} {args : Array Value} {a : Addr} {cl : Cell} {t : Term} {k : Int32} (hf : Fit s) (A : Arr s s.heap a cl .int) (ev : t.eval args s none [] s = some (.ref a)) (hl : (Cond.le (Term.length t) (Term.int k)).value args s none s [] = some true) :
    (cl.slots.size < 2 ^ 31 ∧ (cl.slots.size : Int) ≤ k.toInt) ∧ SRep s s.heap a s.heap.size (some (cl.slots.size, fun i => match cl.slots[i]? with | some (.int x) => x | _ => 0)) := by
  obtain ⟨x, y, h1, h2, -⟩ := cmp_v (Or.inr (Or.inr hl))
  have hz : cl.slots.size < 2 ^ 31 := by
    have q : (Term.length t).eval args s none [] s = if cl.slots.size < 2 ^ 31 then some (.int cl.slots.size.toInt32) else none := by simp [Term.eval, ev, A.fin (Vm.Alike.refl _)]
    rw [h1] at q
    split at q
    · assumption
    · cases q
  have h1' := len_f ev (A.fin (Vm.Alike.refl _)) hz (args := args) (first := s) (o := none) (idx := [])
  have hle := gotT (Cond.le_ints h1' (Term.int_eval k)) hl
  rw [Int32.le_iff_toInt_le, len_toInt hz] at hle
  refine ⟨⟨hz, hle⟩, A.lt, cl, A, rfl, fun i hi => ?_⟩
  have e1 : cl.slots[i]? = some cl.slots[i] := Array.getElem?_eq_getElem hi
  have q := elem_fit hf A (j := i.toInt32) (idx_in hi hz)
  have e2 : i.toInt32.toNatClampNeg = i := by
    have := len_toInt (n := i) (by omega)
    simp only [Int32.toNatClampNeg, this]; rfl
  rw [e2] at q
  obtain ⟨v, hv, hfv⟩ := q
  obtain ⟨x, rfl⟩ := fit_I hfv (Or.inl rfl)
  rw [hv]
  dsimp only
  rw [hv]
end Jvm.LM
namespace Jvm.LM
theorem law_run {P : Cl} {Q : Lw} {sc : Sc} {as : List Value} (h : lalI P Q sc 0 as W0 fun v _ => v = 1) {me : Me} (hme : asc Q.ms 0 = some me) : ∃ f w', lexec P Q sc f 0 me 0 (lay as me.ml) [] W0 = some (some (.int 1), w') := by
  obtain ⟨f, v, w', h1, v', rfl, rfl⟩ := h
  refine ⟨f, w', ?_⟩
  simp only [lcall, hme] at h1
  split at h1
  · exact h1
  · cases h1
end Jvm.LM

namespace Jvm.LM
open Jvm.RoadKit
/-! numbers -/
theorem i32_add {x y : Int32} (h1 : -2147483648 ≤ x.toInt + y.toInt) (h2 : x.toInt + y.toInt < 2147483648) : (x + y).toInt = x.toInt + y.toInt := by
  have := c_iadd x y; have := rng32 (x + y); omega
theorem i32_sub {x y : Int32} (h1 : -2147483648 ≤ x.toInt - y.toInt) (h2 : x.toInt - y.toInt < 2147483648) : (x - y).toInt = x.toInt - y.toInt := by
  have := c_isub x y; have := rng32 (x - y); omega
theorem i32_mul {x y : Int32} (h1 : -2147483648 ≤ x.toInt * y.toInt) (h2 : x.toInt * y.toInt < 2147483648) : (x * y).toInt = x.toInt * y.toInt := by
  have := c_imul x y; have := rng32 (x * y); omega
theorem ix_int {i : Int32} (h : 0 ≤ i.toInt) : (ix i : Int) = i.toInt := by simp only [ix, Int32.toNatClampNeg]; omega
theorem ix_inj {i j : Int32} (hi : 0 ≤ i.toInt) (hj : 0 ≤ j.toInt) : ix i = ix j ↔ i = j := by
  have a := ix_int hi; have b := ix_int hj
  rw [← Int32.toInt_inj]; omega
theorem i32_lt {x y : Int32} : x < y ↔ x.toInt < y.toInt := Int32.lt_iff_toInt_lt
theorem i32_eq {x y : Int32} : x = y ↔ x.toInt = y.toInt := Int32.toInt_inj.symm
/-- a loop that counts up to N: from the next turn to this one -/
theorem loop_up {F : Int32 → Prop} (N : Int) (hN : N < 2147483647) (step : ∀ i, 0 ≤ i.toInt → i.toInt < N → (i + 1).toInt = i.toInt + 1 → F (i + 1) → F i) (last : ∀ i, i.toInt = N → F i) : ∀ i, 0 ≤ i.toInt → i.toInt ≤ N → F i := by
  have key : ∀ n : Nat, ∀ i : Int32, 0 ≤ i.toInt → i.toInt + n = N → F i := by
    intro n
    induction n with
    | zero => intro i h0 h1; exact last i (by omega)
    | succ n ih =>
      intro i h0 h1
      have e : (i + 1).toInt = i.toInt + 1 := i32_add (by simp; omega) (by simp; omega)
      exact step i h0 (by omega) e (ih (i + 1) (by omega) (by omega))
  intro i h0 h1
  exact key (N - i.toInt).toNat i h0 (by omega)
theorem cmpL_lt {x y : Int64} : Jvm.Free.XT.cmpL x y < 0 ↔ x < y := by
  unfold Jvm.Free.XT.cmpL; split
  · rename_i h; exact ⟨fun q => absurd q (by decide), fun q => by rw [Int64.lt_iff_toInt_lt] at h q; omega⟩
  · split
    · rename_i h; subst h; exact ⟨fun q => absurd q (by decide), fun q => by rw [Int64.lt_iff_toInt_lt] at q; omega⟩
    · rename_i h1 h2
      refine ⟨fun _ => ?_, fun _ => by decide⟩
      rw [Int64.lt_iff_toInt_lt] at h1 ⊢; rw [← Int64.toInt_inj] at h2; omega
theorem cmpL_gt {x y : Int64} : 0 < Jvm.Free.XT.cmpL x y ↔ y < x := by
  unfold Jvm.Free.XT.cmpL; split
  · rename_i h; exact ⟨fun _ => h, fun _ => by decide⟩
  · rename_i h; split
    · exact ⟨fun q => absurd q (by decide), fun q => absurd q h⟩
    · exact ⟨fun q => absurd q (by decide), fun q => absurd q h⟩
theorem cmpL_eq {x y : Int64} : Jvm.Free.XT.cmpL x y = 0 ↔ x = y := by
  unfold Jvm.Free.XT.cmpL; split
  · rename_i h; exact ⟨fun q => absurd q (by decide), fun q => by subst q; rw [Int64.lt_iff_toInt_lt] at h; omega⟩
  · split
    · rename_i h; exact ⟨fun _ => h, fun _ => rfl⟩
    · rename_i h1 h2; exact ⟨fun q => absurd q (by decide), fun q => absurd q h2⟩
end Jvm.LM

namespace Jvm.Pilot.@@N@@
open Jvm Jvm.ClassFile Sem Op Lib Jvm.Free Jvm.Stand Jvm.LawKit Jvm.RoadKit Jvm.LM Bundle Jvm.Pilot.@@N@@.Jvm.D
def cm0 : Me := ("<init>", "(II)V", 2, 0, [(0, .aload_n 0, 1), (1, .invokespecial 1, 3), (4, .aload_n 0, 1), (5, .bipush 16, 2), (7, .newarray .int, 2), (9, .putfield 7, 3), (12, .aload_n 0, 1), (13, .bipush 16, 2), (15, .newarray .int, 2), (17, .putfield 13, 3), (20, .aload_n 0, 1), (21, .bipush 96, 2), (23, .newarray .int, 2), (25, .putfield 16, 3), (28, .aload_n 0, 1), (29, .bipush 8, 2), (31, .newarray .boolean, 2), (33, .putfield 19, 3), (36, .aload_n 0, 1), (37, .bipush 8, 2), (39, .newarray .int, 2), (41, .putfield 23, 3), (44, .aload_n 0, 1), (45, .bipush 8, 2), (47, .newarray .int, 2), (49, .putfield 26, 3), (52, .aload_n 0, 1), (53, .sipush 128, 3), (56, .newarray .int, 2), (58, .putfield 29, 3), (61, .aload_n 0, 1), (62, .sipush 256, 3), (65, .newarray .int, 2), (67, .putfield 32, 3), (70, .aload_n 0, 1), (71, .bipush 32, 2), (73, .newarray .int, 2), (75, .putfield 35, 3), (78, .aload_n 0, 1), (79, .sipush 256, 3), (82, .newarray .int, 2), (84, .putfield 38, 3), (87, .aload_n 0, 1), (88, .sipush 256, 3), (91, .newarray .int, 2), (93, .putfield 41, 3), (96, .aload_n 0, 1), (97, .sipush 256, 3), (100, .newarray .int, 2), (102, .putfield 44, 3), (105, .aload_n 0, 1), (106, .sipush 256, 3), (109, .newarray .int, 2), (111, .putfield 47, 3), (114, .aload_n 0, 1), (115, .bipush 64, 2), (117, .newarray .int, 2), (119, .putfield 50, 3), (122, .aload_n 0, 1), (123, .aload_n 0, 1), (124, .iload_n 1, 1), (125, .iconst 1, 1), (126, .bipush 8, 2), (128, .invokevirtual 53, 3), (131, .putfield 57, 3), (134, .aload_n 0, 1), (135, .aload_n 0, 1), (136, .iload_n 2, 1), (137, .iconst 1, 1), (138, .bipush 15, 2), (140, .invokevirtual 53, 3), (143, .putfield 61, 3), (146, .aload_n 0, 1), (147, .iconst 0, 1), (148, .putfield 64, 3), (151, .aload_n 0, 1), (152, .iconst 0, 1), (153, .putfield 67, 3), (156, .aload_n 0, 1), (157, .iconst 0, 1), (158, .putfield 70, 3), (161, .aload_n 0, 1), (162, .iconst 0, 1), (163, .putfield 73, 3), (166, .aload_n 0, 1), (167, .iconst 0, 1), (168, .putfield 76, 3), (171, .aload_n 0, 1), (172, .iconst 0, 1), (173, .putfield 79, 3), (176, .aload_n 0, 1), (177, .iconst 0, 1), (178, .putfield 82, 3), (181, .aload_n 0, 1), (182, .iconst 0, 1), (183, .putfield 85, 3), (186, .aload_n 0, 1), (187, .iconst 0, 1), (188, .putfield 89, 3), (191, .return_, 1)], 3, 1, 16)
def cm2 : Me := ("clamp", "(III)I", 3, 1, [(0, .iload_n 1, 1), (1, .iload_n 2, 1), (2, .if_icmp .ge 5, 3), (5, .iload_n 2, 1), (6, .ireturn, 1), (7, .iload_n 1, 1), (8, .iload_n 3, 1), (9, .if_icmp .le 5, 3), (12, .iload_n 3, 1), (13, .ireturn, 1), (14, .iload_n 1, 1), (15, .ireturn, 1)], 4, 0, 0)
def cm3 : Me := ("beginRule", "(I)I", 1, 1, [(0, .aload_n 0, 1), (1, .getfield 85, 3), (4, .ifCond .eq 5, 3), (7, .iconst (-1), 1), (8, .ireturn, 1), (9, .iload_n 1, 1), (10, .ifCond .lt 11, 3), (13, .iload_n 1, 1), (14, .aload_n 0, 1), (15, .getfield 57, 3), (18, .if_icmp .lt 5, 3), (21, .iconst (-1), 1), (22, .ireturn, 1), (23, .aload_n 0, 1), (24, .getfield 64, 3), (27, .bipush 16, 2), (29, .if_icmp .lt 5, 3), (32, .iconst (-1), 1), (33, .ireturn, 1), (34, .aload_n 0, 1), (35, .getfield 7, 3), (38, .aload_n 0, 1), (39, .getfield 64, 3), (42, .iload_n 1, 1), (43, .iastore, 1), (44, .aload_n 0, 1), (45, .getfield 13, 3), (48, .aload_n 0, 1), (49, .getfield 64, 3), (52, .iconst 0, 1), (53, .iastore, 1), (54, .aload_n 0, 1), (55, .getfield 64, 3), (58, .istore_n 2, 1), (59, .aload_n 0, 1), (60, .iload_n 2, 1), (61, .iconst 1, 1), (62, .iadd, 1), (63, .putfield 64, 3), (66, .iload_n 2, 1), (67, .ireturn, 1)], 3, 0, 0)
def cm4 : Me := ("addSymbol", "(I)Z", 1, 2, [(0, .aload_n 0, 1), (1, .getfield 85, 3), (4, .ifCond .ne 10, 3), (7, .aload_n 0, 1), (8, .getfield 64, 3), (11, .ifCond .ne 5, 3), (14, .iconst 0, 1), (15, .ireturn, 1), (16, .aload_n 0, 1), (17, .getfield 64, 3), (20, .iconst 1, 1), (21, .isub, 1), (22, .istore_n 2, 1), (23, .aload_n 0, 1), (24, .getfield 13, 3), (27, .iload_n 2, 1), (28, .iaload, 1), (29, .bipush 6, 2), (31, .if_icmp .lt 5, 3), (34, .iconst 0, 1), (35, .ireturn, 1), (36, .aload_n 0, 1), (37, .iload_n 1, 1), (38, .invokevirtual 92, 3), (41, .ifCond .ne 5, 3), (44, .iconst 0, 1), (45, .ireturn, 1), (46, .aload_n 0, 1), (47, .getfield 16, 3), (50, .iload_n 2, 1), (51, .bipush 6, 2), (53, .imul, 1), (54, .aload_n 0, 1), (55, .getfield 13, 3), (58, .iload_n 2, 1), (59, .iaload, 1), (60, .iadd, 1), (61, .iload_n 1, 1), (62, .iastore, 1), (63, .aload_n 0, 1), (64, .getfield 13, 3), (67, .iload_n 2, 1), (68, .aload_n 0, 1), (69, .getfield 13, 3), (72, .iload_n 2, 1), (73, .iaload, 1), (74, .iconst 1, 1), (75, .iadd, 1), (76, .iastore, 1), (77, .iconst 1, 1), (78, .ireturn, 1)], 3, 1, 13)
def cm5 : Me := ("validSymbol", "(I)Z", 1, 2, [(0, .iload_n 1, 1), (1, .iconst 1, 1), (2, .if_icmp .lt 13, 3), (5, .iload_n 1, 1), (6, .aload_n 0, 1), (7, .getfield 61, 3), (10, .if_icmp .gt 5, 3), (13, .iconst 1, 1), (14, .ireturn, 1), (15, .iload_n 1, 1), (16, .bipush 16, 2), (18, .if_icmp .lt 18, 3), (21, .iload_n 1, 1), (22, .bipush 16, 2), (24, .aload_n 0, 1), (25, .getfield 57, 3), (28, .iadd, 1), (29, .if_icmp .ge 7, 3), (32, .iconst 1, 1), (33, .goto 4, 3), (36, .iconst 0, 1), (37, .ireturn, 1)], 2, 0, 0)
def cm6 : Me := ("build", "()I", 0, 1, [(0, .aload_n 0, 1), (1, .getfield 85, 3), (4, .ifCond .eq 5, 3), (7, .iconst (-1), 1), (8, .ireturn, 1), (9, .aload_n 0, 1), (10, .iconst 1, 1), (11, .putfield 85, 3), (14, .iconst 0, 1), (15, .istore_n 1, 1), (16, .iload_n 1, 1), (17, .bipush 64, 2), (19, .if_icmp .ge 19, 3), (22, .aload_n 0, 1), (23, .invokevirtual 96, 3), (26, .ifCond .ne 6, 3), (29, .goto 9, 3), (32, .iinc 1 1, 3), (35, .goto (-19), 3), (38, .iconst 0, 1), (39, .istore_n 1, 1), (40, .iload_n 1, 1), (41, .sipush 256, 3), (44, .if_icmp .ge 19, 3), (47, .aload_n 0, 1), (48, .invokevirtual 100, 3), (51, .ifCond .ne 6, 3), (54, .goto 9, 3), (57, .iinc 1 1, 3), (60, .goto (-20), 3), (63, .aload_n 0, 1), (64, .getfield 26, 3), (67, .iconst 0, 1), (68, .iconst 1, 1), (69, .iastore, 1), (70, .iconst 0, 1), (71, .istore_n 1, 1), (72, .iload_n 1, 1), (73, .sipush 256, 3), (76, .if_icmp .ge 19, 3), (79, .aload_n 0, 1), (80, .invokevirtual 103, 3), (83, .ifCond .ne 6, 3), (86, .goto 9, 3), (89, .iinc 1 1, 3), (92, .goto (-20), 3), (95, .aload_n 0, 1), (96, .invokevirtual 106, 3), (99, .aload_n 0, 1), (100, .getfield 73, 3), (103, .ireturn, 1)], 2, 4, 63)
def cm7 : Me := ("seqNullable", "(II)Z", 2, 2, [(0, .aload_n 0, 1), (1, .getfield 13, 3), (4, .iload_n 1, 1), (5, .iaload, 1), (6, .istore_n 3, 1), (7, .iload_n 2, 1), (8, .istore 4, 2), (10, .iload 4, 2), (12, .iload_n 3, 1), (13, .if_icmp .ge 47, 3), (16, .aload_n 0, 1), (17, .getfield 16, 3), (20, .iload_n 1, 1), (21, .bipush 6, 2), (23, .imul, 1), (24, .iload 4, 2), (26, .iadd, 1), (27, .iaload, 1), (28, .istore 5, 2), (30, .iload 5, 2), (32, .bipush 16, 2), (34, .if_icmp .ge 5, 3), (37, .iconst 0, 1), (38, .ireturn, 1), (39, .aload_n 0, 1), (40, .getfield 19, 3), (43, .iload 5, 2), (45, .bipush 16, 2), (47, .isub, 1), (48, .baload, 1), (49, .ifCond .ne 5, 3), (52, .iconst 0, 1), (53, .ireturn, 1), (54, .iinc 4 1, 3), (57, .goto (-47), 3), (60, .iconst 1, 1), (61, .ireturn, 1)], 6, 0, 0)
def cm8 : Me := ("firstOfSeq", "(II)I", 2, 1, [(0, .aload_n 0, 1), (1, .getfield 13, 3), (4, .iload_n 1, 1), (5, .iaload, 1), (6, .istore_n 3, 1), (7, .iconst 0, 1), (8, .istore 4, 2), (10, .iload_n 2, 1), (11, .istore 5, 2), (13, .iload 5, 2), (15, .iload_n 3, 1), (16, .if_icmp .ge 69, 3), (19, .aload_n 0, 1), (20, .getfield 16, 3), (23, .iload_n 1, 1), (24, .bipush 6, 2), (26, .imul, 1), (27, .iload 5, 2), (29, .iadd, 1), (30, .iaload, 1), (31, .istore 6, 2), (33, .iload 6, 2), (35, .bipush 16, 2), (37, .if_icmp .ge 11, 3), (40, .iload 4, 2), (42, .iconst 1, 1), (43, .iload 6, 2), (45, .ishl, 1), (46, .ior, 1), (47, .ireturn, 1), (48, .iload 4, 2), (50, .aload_n 0, 1), (51, .getfield 23, 3), (54, .iload 6, 2), (56, .bipush 16, 2), (58, .isub, 1), (59, .iaload, 1), (60, .ior, 1), (61, .istore 4, 2), (63, .aload_n 0, 1), (64, .getfield 19, 3), (67, .iload 6, 2), (69, .bipush 16, 2), (71, .isub, 1), (72, .baload, 1), (73, .ifCond .ne 6, 3), (76, .iload 4, 2), (78, .ireturn, 1), (79, .iinc 5 1, 3), (82, .goto (-69), 3), (85, .iload 4, 2), (87, .ireturn, 1)], 7, 0, 0)
def cm9 : Me := ("nullablePass", "()Z", 0, 2, [(0, .iconst 0, 1), (1, .istore_n 1, 1), (2, .iconst 0, 1), (3, .istore_n 2, 1), (4, .iload_n 2, 1), (5, .aload_n 0, 1), (6, .getfield 64, 3), (9, .if_icmp .ge 43, 3), (12, .aload_n 0, 1), (13, .getfield 7, 3), (16, .iload_n 2, 1), (17, .iaload, 1), (18, .istore_n 3, 1), (19, .aload_n 0, 1), (20, .getfield 19, 3), (23, .iload_n 3, 1), (24, .baload, 1), (25, .ifCond .ne 21, 3), (28, .aload_n 0, 1), (29, .iload_n 2, 1), (30, .iconst 0, 1), (31, .invokevirtual 109, 3), (34, .ifCond .eq 12, 3), (37, .aload_n 0, 1), (38, .getfield 19, 3), (41, .iload_n 3, 1), (42, .iconst 1, 1), (43, .bastore, 1), (44, .iconst 1, 1), (45, .istore_n 1, 1), (46, .iinc 2 1, 3), (49, .goto (-45), 3), (52, .iload_n 1, 1), (53, .ireturn, 1)], 4, 1, 17)
def cm10 : Me := ("firstPass", "()Z", 0, 2, [(0, .iconst 0, 1), (1, .istore_n 1, 1), (2, .iconst 0, 1), (3, .istore_n 2, 1), (4, .iload_n 2, 1), (5, .aload_n 0, 1), (6, .getfield 64, 3), (9, .if_icmp .ge 59, 3), (12, .aload_n 0, 1), (13, .getfield 7, 3), (16, .iload_n 2, 1), (17, .iaload, 1), (18, .istore_n 3, 1), (19, .aload_n 0, 1), (20, .iload_n 2, 1), (21, .iconst 0, 1), (22, .invokevirtual 113, 3), (25, .istore 4, 2), (27, .aload_n 0, 1), (28, .getfield 23, 3), (31, .iload_n 3, 1), (32, .iaload, 1), (33, .iload 4, 2), (35, .ior, 1), (36, .aload_n 0, 1), (37, .getfield 23, 3), (40, .iload_n 3, 1), (41, .iaload, 1), (42, .if_icmp .eq 20, 3), (45, .aload_n 0, 1), (46, .getfield 23, 3), (49, .iload_n 3, 1), (50, .aload_n 0, 1), (51, .getfield 23, 3), (54, .iload_n 3, 1), (55, .iaload, 1), (56, .iload 4, 2), (58, .ior, 1), (59, .iastore, 1), (60, .iconst 1, 1), (61, .istore_n 1, 1), (62, .iinc 2 1, 3), (65, .goto (-61), 3), (68, .iload_n 1, 1), (69, .ireturn, 1)], 5, 1, 18)
def cm11 : Me := ("followPass", "()Z", 0, 2, [(0, .iconst 0, 1), (1, .istore_n 1, 1), (2, .iconst 0, 1), (3, .istore_n 2, 1), (4, .iload_n 2, 1), (5, .aload_n 0, 1), (6, .getfield 64, 3), (9, .if_icmp .ge 19, 3), (12, .aload_n 0, 1), (13, .iload_n 2, 1), (14, .invokevirtual 117, 3), (17, .ifCond .eq 5, 3), (20, .iconst 1, 1), (21, .istore_n 1, 1), (22, .iinc 2 1, 3), (25, .goto (-21), 3), (28, .iload_n 1, 1), (29, .ireturn, 1)], 3, 2, 38)
def cm12 : Me := ("followRule", "(I)Z", 1, 2, [(0, .aload_n 0, 1), (1, .getfield 7, 3), (4, .iload_n 1, 1), (5, .iaload, 1), (6, .istore_n 2, 1), (7, .aload_n 0, 1), (8, .getfield 13, 3), (11, .iload_n 1, 1), (12, .iaload, 1), (13, .istore_n 3, 1), (14, .iconst 0, 1), (15, .istore 4, 2), (17, .iconst 0, 1), (18, .istore 5, 2), (20, .iload 5, 2), (22, .iload_n 3, 1), (23, .if_icmp .ge 114, 3), (26, .aload_n 0, 1), (27, .getfield 16, 3), (30, .iload_n 1, 1), (31, .bipush 6, 2), (33, .imul, 1), (34, .iload 5, 2), (36, .iadd, 1), (37, .iaload, 1), (38, .istore 6, 2), (40, .iload 6, 2), (42, .bipush 16, 2), (44, .if_icmp .ge 6, 3), (47, .goto 84, 3), (50, .iload 6, 2), (52, .bipush 16, 2), (54, .isub, 1), (55, .istore 7, 2), (57, .aload_n 0, 1), (58, .iload_n 1, 1), (59, .iload 5, 2), (61, .iconst 1, 1), (62, .iadd, 1), (63, .invokevirtual 113, 3), (66, .istore 8, 2), (68, .aload_n 0, 1), (69, .iload_n 1, 1), (70, .iload 5, 2), (72, .iconst 1, 1), (73, .iadd, 1), (74, .invokevirtual 109, 3), (77, .ifCond .eq 14, 3), (80, .iload 8, 2), (82, .aload_n 0, 1), (83, .getfield 26, 3), (86, .iload_n 2, 1), (87, .iaload, 1), (88, .ior, 1), (89, .istore 8, 2), (91, .aload_n 0, 1), (92, .getfield 26, 3), (95, .iload 7, 2), (97, .iaload, 1), (98, .iload 8, 2), (100, .ior, 1), (101, .aload_n 0, 1), (102, .getfield 26, 3), (105, .iload 7, 2), (107, .iaload, 1), (108, .if_icmp .eq 23, 3), (111, .aload_n 0, 1), (112, .getfield 26, 3), (115, .iload 7, 2), (117, .aload_n 0, 1), (118, .getfield 26, 3), (121, .iload 7, 2), (123, .iaload, 1), (124, .iload 8, 2), (126, .ior, 1), (127, .iastore, 1), (128, .iconst 1, 1), (129, .istore 4, 2), (131, .iinc 5 1, 3), (134, .goto (-114), 3), (137, .iload 4, 2), (139, .ireturn, 1)], 9, 1, 18)
def cm13 : Me := ("predict", "(I)I", 1, 1, [(0, .aload_n 0, 1), (1, .iload_n 1, 1), (2, .iconst 0, 1), (3, .invokevirtual 113, 3), (6, .istore_n 2, 1), (7, .aload_n 0, 1), (8, .iload_n 1, 1), (9, .iconst 0, 1), (10, .invokevirtual 109, 3), (13, .ifCond .eq 17, 3), (16, .iload_n 2, 1), (17, .aload_n 0, 1), (18, .getfield 26, 3), (21, .aload_n 0, 1), (22, .getfield 7, 3), (25, .iload_n 1, 1), (26, .iaload, 1), (27, .iaload, 1), (28, .ior, 1), (29, .istore_n 2, 1), (30, .iload_n 2, 1), (31, .ireturn, 1)], 3, 1, 18)
def cm14 : Me := ("fillTable", "()V", 0, 0, [(0, .iconst 0, 1), (1, .istore_n 1, 1), (2, .iload_n 1, 1), (3, .sipush 128, 3), (6, .if_icmp .ge 16, 3), (9, .aload_n 0, 1), (10, .getfield 29, 3), (13, .iload_n 1, 1), (14, .iconst (-1), 1), (15, .iastore, 1), (16, .iinc 1 1, 3), (19, .goto (-17), 3), (22, .iconst 0, 1), (23, .istore_n 1, 1), (24, .iload_n 1, 1), (25, .aload_n 0, 1), (26, .getfield 64, 3), (29, .if_icmp .ge 14, 3), (32, .aload_n 0, 1), (33, .iload_n 1, 1), (34, .invokevirtual 120, 3), (37, .iinc 1 1, 3), (40, .goto (-16), 3), (43, .return_, 1)], 2, 3, 50)
def cm15 : Me := ("fillRule", "(I)V", 1, 0, [(0, .aload_n 0, 1), (1, .iload_n 1, 1), (2, .invokevirtual 124, 3), (5, .istore_n 2, 1), (6, .aload_n 0, 1), (7, .getfield 7, 3), (10, .iload_n 1, 1), (11, .iaload, 1), (12, .istore_n 3, 1), (13, .iconst 0, 1), (14, .istore 4, 2), (16, .iload 4, 2), (18, .aload_n 0, 1), (19, .getfield 61, 3), (22, .if_icmp .gt 101, 3), (25, .iload_n 2, 1), (26, .iload 4, 2), (28, .ishr, 1), (29, .iconst 1, 1), (30, .iand, 1), (31, .ifCond .ne 6, 3), (34, .goto 83, 3), (37, .iload_n 3, 1), (38, .bipush 16, 2), (40, .imul, 1), (41, .iload 4, 2), (43, .iadd, 1), (44, .istore 5, 2), (46, .aload_n 0, 1), (47, .getfield 29, 3), (50, .iload 5, 2), (52, .iaload, 1), (53, .istore 6, 2), (55, .iload 6, 2), (57, .ifCond .ge 14, 3), (60, .aload_n 0, 1), (61, .getfield 29, 3), (64, .iload 5, 2), (66, .iload_n 1, 1), (67, .iastore, 1), (68, .goto 49, 3), (71, .aload_n 0, 1), (72, .getfield 73, 3), (75, .sipush 256, 3), (78, .if_icmp .ge 39, 3), (81, .aload_n 0, 1), (82, .getfield 32, 3), (85, .aload_n 0, 1), (86, .getfield 73, 3), (89, .iload_n 3, 1), (90, .bipush 16, 2), (92, .ishl, 1), (93, .iload 4, 2), (95, .bipush 8, 2), (97, .ishl, 1), (98, .ior, 1), (99, .iload 6, 2), (101, .iconst 4, 1), (102, .ishl, 1), (103, .ior, 1), (104, .iload_n 1, 1), (105, .ior, 1), (106, .iastore, 1), (107, .aload_n 0, 1), (108, .dup, 1), (109, .getfield 73, 3), (112, .iconst 1, 1), (113, .iadd, 1), (114, .putfield 73, 3), (117, .iinc 4 1, 3), (120, .goto (-104), 3), (123, .return_, 1)], 7, 2, 32)
def cm16 : Me := ("nullable", "(I)Z", 1, 2, [(0, .aload_n 0, 1), (1, .getfield 85, 3), (4, .ifCond .eq 15, 3), (7, .iload_n 1, 1), (8, .ifCond .lt 11, 3), (11, .iload_n 1, 1), (12, .aload_n 0, 1), (13, .getfield 57, 3), (16, .if_icmp .lt 5, 3), (19, .iconst 0, 1), (20, .ireturn, 1), (21, .aload_n 0, 1), (22, .getfield 19, 3), (25, .iload_n 1, 1), (26, .baload, 1), (27, .ireturn, 1)], 2, 0, 0)
def cm17 : Me := ("firstSet", "(I)I", 1, 1, [(0, .aload_n 0, 1), (1, .getfield 85, 3), (4, .ifCond .eq 15, 3), (7, .iload_n 1, 1), (8, .ifCond .lt 11, 3), (11, .iload_n 1, 1), (12, .aload_n 0, 1), (13, .getfield 57, 3), (16, .if_icmp .lt 5, 3), (19, .iconst 0, 1), (20, .ireturn, 1), (21, .aload_n 0, 1), (22, .getfield 23, 3), (25, .iload_n 1, 1), (26, .iaload, 1), (27, .ireturn, 1)], 2, 0, 0)
def cm18 : Me := ("followSet", "(I)I", 1, 1, [(0, .aload_n 0, 1), (1, .getfield 85, 3), (4, .ifCond .eq 15, 3), (7, .iload_n 1, 1), (8, .ifCond .lt 11, 3), (11, .iload_n 1, 1), (12, .aload_n 0, 1), (13, .getfield 57, 3), (16, .if_icmp .lt 5, 3), (19, .iconst 0, 1), (20, .ireturn, 1), (21, .aload_n 0, 1), (22, .getfield 26, 3), (25, .iload_n 1, 1), (26, .iaload, 1), (27, .ireturn, 1)], 2, 0, 0)
def cm19 : Me := ("tableEntry", "(II)I", 2, 1, [(0, .aload_n 0, 1), (1, .getfield 85, 3), (4, .ifCond .eq 27, 3), (7, .iload_n 1, 1), (8, .ifCond .lt 23, 3), (11, .iload_n 1, 1), (12, .aload_n 0, 1), (13, .getfield 57, 3), (16, .if_icmp .ge 15, 3), (19, .iload_n 2, 1), (20, .ifCond .lt 11, 3), (23, .iload_n 2, 1), (24, .aload_n 0, 1), (25, .getfield 61, 3), (28, .if_icmp .le 5, 3), (31, .iconst (-1), 1), (32, .ireturn, 1), (33, .aload_n 0, 1), (34, .getfield 29, 3), (37, .iload_n 1, 1), (38, .bipush 16, 2), (40, .imul, 1), (41, .iload_n 2, 1), (42, .iadd, 1), (43, .iaload, 1), (44, .ireturn, 1)], 3, 0, 0)
def cm20 : Me := ("conflict", "(I)I", 1, 1, [(0, .aload_n 0, 1), (1, .getfield 85, 3), (4, .ifCond .eq 22, 3), (7, .iload_n 1, 1), (8, .ifCond .lt 18, 3), (11, .iload_n 1, 1), (12, .aload_n 0, 1), (13, .getfield 73, 3), (16, .if_icmp .ge 10, 3), (19, .iload_n 1, 1), (20, .sipush 256, 3), (23, .if_icmp .lt 5, 3), (26, .iconst (-1), 1), (27, .ireturn, 1), (28, .aload_n 0, 1), (29, .getfield 32, 3), (32, .iload_n 1, 1), (33, .iaload, 1), (34, .ireturn, 1)], 2, 0, 0)
def cm21 : Me := ("token", "(I)Z", 1, 2, [(0, .aload_n 0, 1), (1, .getfield 89, 3), (4, .ifCond .ne 12, 3), (7, .aload_n 0, 1), (8, .getfield 67, 3), (11, .bipush 32, 2), (13, .if_icmp .lt 5, 3), (16, .iconst 0, 1), (17, .ireturn, 1), (18, .iload_n 1, 1), (19, .iconst 1, 1), (20, .if_icmp .lt 11, 3), (23, .iload_n 1, 1), (24, .aload_n 0, 1), (25, .getfield 61, 3), (28, .if_icmp .le 5, 3), (31, .iconst 0, 1), (32, .ireturn, 1), (33, .aload_n 0, 1), (34, .getfield 35, 3), (37, .aload_n 0, 1), (38, .getfield 67, 3), (41, .iload_n 1, 1), (42, .iastore, 1), (43, .aload_n 0, 1), (44, .dup, 1), (45, .getfield 67, 3), (48, .iconst 1, 1), (49, .iadd, 1), (50, .putfield 67, 3), (53, .iconst 1, 1), (54, .ireturn, 1)], 2, 0, 0)
def cm22 : Me := ("parse", "()I", 0, 1, [(0, .aload_n 0, 1), (1, .getfield 85, 3), (4, .ifCond .eq 10, 3), (7, .aload_n 0, 1), (8, .getfield 89, 3), (11, .ifCond .eq 5, 3), (14, .iconst (-1), 1), (15, .ireturn, 1), (16, .aload_n 0, 1), (17, .iconst 1, 1), (18, .putfield 89, 3), (21, .aload_n 0, 1), (22, .iconst 1, 1), (23, .putfield 70, 3), (26, .aload_n 0, 1), (27, .getfield 38, 3), (30, .iconst 0, 1), (31, .bipush 16, 2), (33, .iastore, 1), (34, .aload_n 0, 1), (35, .getfield 41, 3), (38, .iconst 0, 1), (39, .iconst (-1), 1), (40, .iastore, 1), (41, .aload_n 0, 1), (42, .getfield 44, 3), (45, .iconst 0, 1), (46, .iconst (-1), 1), (47, .iastore, 1), (48, .aload_n 0, 1), (49, .getfield 47, 3), (52, .iconst 0, 1), (53, .iconst 0, 1), (54, .iastore, 1), (55, .aload_n 0, 1), (56, .iconst 1, 1), (57, .putfield 79, 3), (60, .aload_n 0, 1), (61, .iconst 0, 1), (62, .putfield 82, 3), (65, .iconst 0, 1), (66, .istore_n 1, 1), (67, .iload_n 1, 1), (68, .sipush 2048, 3), (71, .if_icmp .ge 71, 3), (74, .aload_n 0, 1), (75, .getfield 79, 3), (78, .ifCond .gt 10, 3), (81, .aload_n 0, 1), (82, .invokevirtual 128, 3), (85, .goto 57, 3), (88, .aload_n 0, 1), (89, .getfield 47, 3), (92, .aload_n 0, 1), (93, .getfield 79, 3), (96, .iconst 1, 1), (97, .isub, 1), (98, .iaload, 1), (99, .istore_n 2, 1), (100, .aload_n 0, 1), (101, .getfield 38, 3), (104, .iload_n 2, 1), (105, .iaload, 1), (106, .istore_n 3, 1), (107, .iload_n 3, 1), (108, .bipush 16, 2), (110, .if_icmp .ge 12, 3), (113, .aload_n 0, 1), (114, .iload_n 2, 1), (115, .iload_n 3, 1), (116, .invokevirtual 131, 3), (119, .goto 17, 3), (122, .aload_n 0, 1), (123, .iload_n 2, 1), (124, .iload_n 3, 1), (125, .bipush 16, 2), (127, .isub, 1), (128, .invokevirtual 135, 3), (131, .ifCond .ne 5, 3), (134, .iconst 2, 1), (135, .ireturn, 1), (136, .iinc 1 1, 3), (139, .goto (-72), 3), (142, .aload_n 0, 1), (143, .getfield 76, 3), (146, .ifCond .ne 5, 3), (149, .iconst 0, 1), (150, .ireturn, 1), (151, .iconst 1, 1), (152, .ireturn, 1)], 4, 3, 48)
def cm23 : Me := ("lookahead", "()I", 0, 1, [(0, .aload_n 0, 1), (1, .getfield 82, 3), (4, .ifCond .lt 33, 3), (7, .aload_n 0, 1), (8, .getfield 82, 3), (11, .aload_n 0, 1), (12, .getfield 67, 3), (15, .if_icmp .ge 22, 3), (18, .aload_n 0, 1), (19, .getfield 82, 3), (22, .bipush 32, 2), (24, .if_icmp .ge 13, 3), (27, .aload_n 0, 1), (28, .getfield 35, 3), (31, .aload_n 0, 1), (32, .getfield 82, 3), (35, .iaload, 1), (36, .ireturn, 1), (37, .iconst 0, 1), (38, .ireturn, 1)], 1, 0, 0)
def cm24 : Me := ("record", "(III)V", 3, 0, [(0, .aload_n 0, 1), (1, .getfield 76, 3), (4, .ifCond .lt 32, 3), (7, .aload_n 0, 1), (8, .getfield 76, 3), (11, .bipush 64, 2), (13, .if_icmp .ge 23, 3), (16, .aload_n 0, 1), (17, .getfield 50, 3), (20, .aload_n 0, 1), (21, .getfield 76, 3), (24, .iload_n 1, 1), (25, .bipush 16, 2), (27, .ishl, 1), (28, .iload_n 2, 1), (29, .bipush 8, 2), (31, .ishl, 1), (32, .ior, 1), (33, .iload_n 3, 1), (34, .ior, 1), (35, .iastore, 1), (36, .aload_n 0, 1), (37, .dup, 1), (38, .getfield 76, 3), (41, .iconst 1, 1), (42, .iadd, 1), (43, .putfield 76, 3), (46, .return_, 1)], 4, 0, 0)
def cm25 : Me := ("skipRest", "()V", 0, 0, [(0, .iconst 0, 1), (1, .istore_n 1, 1), (2, .iload_n 1, 1), (3, .bipush 32, 2), (5, .if_icmp .ge 48, 3), (8, .aload_n 0, 1), (9, .getfield 82, 3), (12, .aload_n 0, 1), (13, .getfield 67, 3), (16, .if_icmp .ge 37, 3), (19, .aload_n 0, 1), (20, .iconst 2, 1), (21, .aload_n 0, 1), (22, .getfield 82, 3), (25, .aload_n 0, 1), (26, .getfield 35, 3), (29, .aload_n 0, 1), (30, .getfield 82, 3), (33, .iaload, 1), (34, .invokevirtual 138, 3), (37, .aload_n 0, 1), (38, .dup, 1), (39, .getfield 82, 3), (42, .iconst 1, 1), (43, .iadd, 1), (44, .putfield 82, 3), (47, .iinc 1 1, 3), (50, .goto (-48), 3), (53, .return_, 1)], 2, 1, 15)
def cm26 : Me := ("matchTerminal", "(II)V", 2, 0, [(0, .aload_n 0, 1), (1, .invokevirtual 142, 3), (4, .istore_n 3, 1), (5, .iload_n 2, 1), (6, .iload_n 3, 1), (7, .if_icmp .ne 26, 3), (10, .aload_n 0, 1), (11, .getfield 44, 3), (14, .iload_n 1, 1), (15, .aload_n 0, 1), (16, .getfield 82, 3), (19, .iastore, 1), (20, .aload_n 0, 1), (21, .dup, 1), (22, .getfield 82, 3), (25, .iconst 1, 1), (26, .iadd, 1), (27, .putfield 82, 3), (30, .goto 13, 3), (33, .aload_n 0, 1), (34, .iconst 1, 1), (35, .aload_n 0, 1), (36, .getfield 82, 3), (39, .iload_n 2, 1), (40, .invokevirtual 138, 3), (43, .aload_n 0, 1), (44, .dup, 1), (45, .getfield 79, 3), (48, .iconst 1, 1), (49, .isub, 1), (50, .putfield 79, 3), (53, .return_, 1)], 4, 1, 15)
def cm27 : Me := ("expandOrRecover", "(II)Z", 2, 2, [(0, .aload_n 0, 1), (1, .invokevirtual 142, 3), (4, .istore_n 3, 1), (5, .aload_n 0, 1), (6, .getfield 29, 3), (9, .iload_n 2, 1), (10, .bipush 16, 2), (12, .imul, 1), (13, .iload_n 3, 1), (14, .iadd, 1), (15, .iaload, 1), (16, .istore 4, 2), (18, .iload 4, 2), (20, .ifCond .lt 11, 3), (23, .aload_n 0, 1), (24, .iload_n 1, 1), (25, .iload 4, 2), (27, .invokevirtual 146, 3), (30, .ireturn, 1), (31, .aload_n 0, 1), (32, .iload_n 2, 1), (33, .invokevirtual 149, 3), (36, .iconst 1, 1), (37, .ireturn, 1)], 5, 2, 32)
def cm28 : Me := ("expand", "(II)Z", 2, 2, [(0, .aload_n 0, 1), (1, .getfield 13, 3), (4, .iload_n 2, 1), (5, .iaload, 1), (6, .istore_n 3, 1), (7, .aload_n 0, 1), (8, .getfield 70, 3), (11, .iload_n 3, 1), (12, .iadd, 1), (13, .sipush 256, 3), (16, .if_icmp .le 5, 3), (19, .iconst 0, 1), (20, .ireturn, 1), (21, .aload_n 0, 1), (22, .getfield 44, 3), (25, .iload_n 1, 1), (26, .iload_n 2, 1), (27, .iastore, 1), (28, .aload_n 0, 1), (29, .dup, 1), (30, .getfield 79, 3), (33, .iconst 1, 1), (34, .isub, 1), (35, .putfield 79, 3), (38, .aload_n 0, 1), (39, .getfield 70, 3), (42, .istore 4, 2), (44, .iconst 0, 1), (45, .istore 5, 2), (47, .iload 5, 2), (49, .iload_n 3, 1), (50, .if_icmp .ge 51, 3), (53, .iload 4, 2), (55, .iload 5, 2), (57, .iadd, 1), (58, .istore 6, 2), (60, .aload_n 0, 1), (61, .getfield 38, 3), (64, .iload 6, 2), (66, .aload_n 0, 1), (67, .getfield 16, 3), (70, .iload_n 2, 1), (71, .bipush 6, 2), (73, .imul, 1), (74, .iload 5, 2), (76, .iadd, 1), (77, .iaload, 1), (78, .iastore, 1), (79, .aload_n 0, 1), (80, .getfield 41, 3), (83, .iload 6, 2), (85, .iload_n 1, 1), (86, .iastore, 1), (87, .aload_n 0, 1), (88, .getfield 44, 3), (91, .iload 6, 2), (93, .iconst (-1), 1), (94, .iastore, 1), (95, .iinc 5 1, 3), (98, .goto (-51), 3), (101, .aload_n 0, 1), (102, .iload 4, 2), (104, .iload_n 3, 1), (105, .iadd, 1), (106, .putfield 70, 3), (109, .iload_n 3, 1), (110, .iconst 1, 1), (111, .isub, 1), (112, .istore 5, 2), (114, .iload 5, 2), (116, .ifCond .lt 18, 3), (119, .aload_n 0, 1), (120, .iload 4, 2), (122, .iload 5, 2), (124, .iadd, 1), (125, .invokevirtual 152, 3), (128, .iinc 5 (-1), 3), (131, .goto (-17), 3), (134, .iconst 1, 1), (135, .ireturn, 1)], 7, 1, 13)
def cm29 : Me := ("push", "(I)V", 1, 0, [(0, .aload_n 0, 1), (1, .getfield 79, 3), (4, .ifCond .lt 33, 3), (7, .aload_n 0, 1), (8, .getfield 79, 3), (11, .sipush 256, 3), (14, .if_icmp .ge 23, 3), (17, .aload_n 0, 1), (18, .getfield 47, 3), (21, .aload_n 0, 1), (22, .getfield 79, 3), (25, .iload_n 1, 1), (26, .iastore, 1), (27, .aload_n 0, 1), (28, .dup, 1), (29, .getfield 79, 3), (32, .iconst 1, 1), (33, .iadd, 1), (34, .putfield 79, 3), (37, .return_, 1)], 2, 0, 0)
def cm30 : Me := ("syncSet", "(I)I", 1, 1, [(0, .aload_n 0, 1), (1, .getfield 23, 3), (4, .iload_n 1, 1), (5, .iaload, 1), (6, .aload_n 0, 1), (7, .getfield 26, 3), (10, .iload_n 1, 1), (11, .iaload, 1), (12, .ior, 1), (13, .iconst 1, 1), (14, .ior, 1), (15, .istore_n 2, 1), (16, .iconst 0, 1), (17, .istore_n 3, 1), (18, .iload_n 3, 1), (19, .aload_n 0, 1), (20, .getfield 79, 3), (23, .iconst 1, 1), (24, .isub, 1), (25, .if_icmp .ge 59, 3), (28, .iload_n 3, 1), (29, .sipush 256, 3), (32, .if_icmp .ge 52, 3), (35, .aload_n 0, 1), (36, .getfield 38, 3), (39, .aload_n 0, 1), (40, .getfield 47, 3), (43, .iload_n 3, 1), (44, .iaload, 1), (45, .iaload, 1), (46, .istore 4, 2), (48, .iload 4, 2), (50, .bipush 16, 2), (52, .if_icmp .ge 13, 3), (55, .iload_n 2, 1), (56, .iconst 1, 1), (57, .iload 4, 2), (59, .ishl, 1), (60, .ior, 1), (61, .istore_n 2, 1), (62, .goto 16, 3), (65, .iload_n 2, 1), (66, .aload_n 0, 1), (67, .getfield 23, 3), (70, .iload 4, 2), (72, .bipush 16, 2), (74, .isub, 1), (75, .iaload, 1), (76, .ior, 1), (77, .istore_n 2, 1), (78, .iinc 3 1, 3), (81, .goto (-63), 3), (84, .iload_n 2, 1), (85, .ireturn, 1)], 5, 0, 0)
def cm31 : Me := ("recover", "(I)V", 1, 0, [(0, .aload_n 0, 1), (1, .iload_n 1, 1), (2, .invokevirtual 155, 3), (5, .istore_n 2, 1), (6, .iconst 0, 1), (7, .istore_n 3, 1), (8, .iload_n 3, 1), (9, .bipush 32, 2), (11, .if_icmp .gt 48, 3), (14, .aload_n 0, 1), (15, .invokevirtual 142, 3), (18, .istore 4, 2), (20, .iload_n 2, 1), (21, .iload 4, 2), (23, .ishr, 1), (24, .iconst 1, 1), (25, .iand, 1), (26, .ifCond .eq 6, 3), (29, .goto 30, 3), (32, .aload_n 0, 1), (33, .iconst 2, 1), (34, .aload_n 0, 1), (35, .getfield 82, 3), (38, .iload 4, 2), (40, .invokevirtual 138, 3), (43, .aload_n 0, 1), (44, .dup, 1), (45, .getfield 82, 3), (48, .iconst 1, 1), (49, .iadd, 1), (50, .putfield 82, 3), (53, .iinc 3 1, 3), (56, .goto (-48), 3), (59, .aload_n 0, 1), (60, .invokevirtual 142, 3), (63, .istore_n 3, 1), (64, .aload_n 0, 1), (65, .getfield 29, 3), (68, .iload_n 1, 1), (69, .bipush 16, 2), (71, .imul, 1), (72, .iload_n 3, 1), (73, .iadd, 1), (74, .iaload, 1), (75, .ifCond .lt 4, 3), (78, .return_, 1), (79, .aload_n 0, 1), (80, .iconst 3, 1), (81, .aload_n 0, 1), (82, .getfield 82, 3), (85, .bipush 16, 2), (87, .iload_n 1, 1), (88, .iadd, 1), (89, .invokevirtual 138, 3), (92, .aload_n 0, 1), (93, .dup, 1), (94, .getfield 79, 3), (97, .iconst 1, 1), (98, .isub, 1), (99, .putfield 79, 3), (102, .return_, 1)], 5, 1, 16)
def cm32 : Me := ("errorCount", "()I", 0, 1, [(0, .aload_n 0, 1), (1, .getfield 76, 3), (4, .ireturn, 1)], 1, 0, 0)
def cm33 : Me := ("error", "(I)I", 1, 1, [(0, .aload_n 0, 1), (1, .getfield 76, 3), (4, .istore_n 2, 1), (5, .iload_n 2, 1), (6, .bipush 64, 2), (8, .if_icmp .le 6, 3), (11, .bipush 64, 2), (13, .istore_n 2, 1), (14, .iload_n 1, 1), (15, .ifCond .lt 8, 3), (18, .iload_n 1, 1), (19, .iload_n 2, 1), (20, .if_icmp .lt 5, 3), (23, .iconst (-1), 1), (24, .ireturn, 1), (25, .aload_n 0, 1), (26, .getfield 50, 3), (29, .iload_n 1, 1), (30, .iaload, 1), (31, .ireturn, 1)], 3, 0, 0)
def cm34 : Me := ("nodeCount", "()I", 0, 1, [(0, .aload_n 0, 1), (1, .getfield 70, 3), (4, .ireturn, 1)], 1, 0, 0)
def cm35 : Me := ("nodeSymbol", "(I)I", 1, 1, [(0, .iload_n 1, 1), (1, .ifCond .lt 18, 3), (4, .iload_n 1, 1), (5, .aload_n 0, 1), (6, .getfield 70, 3), (9, .if_icmp .ge 10, 3), (12, .iload_n 1, 1), (13, .sipush 256, 3), (16, .if_icmp .lt 5, 3), (19, .iconst (-1), 1), (20, .ireturn, 1), (21, .aload_n 0, 1), (22, .getfield 38, 3), (25, .iload_n 1, 1), (26, .iaload, 1), (27, .ireturn, 1)], 2, 0, 0)
def cm36 : Me := ("nodeParent", "(I)I", 1, 1, [(0, .iload_n 1, 1), (1, .ifCond .lt 18, 3), (4, .iload_n 1, 1), (5, .aload_n 0, 1), (6, .getfield 70, 3), (9, .if_icmp .ge 10, 3), (12, .iload_n 1, 1), (13, .sipush 256, 3), (16, .if_icmp .lt 6, 3), (19, .bipush (-2), 2), (21, .ireturn, 1), (22, .aload_n 0, 1), (23, .getfield 41, 3), (26, .iload_n 1, 1), (27, .iaload, 1), (28, .ireturn, 1)], 2, 0, 0)
def cm37 : Me := ("nodeDetail", "(I)I", 1, 1, [(0, .iload_n 1, 1), (1, .ifCond .lt 18, 3), (4, .iload_n 1, 1), (5, .aload_n 0, 1), (6, .getfield 70, 3), (9, .if_icmp .ge 10, 3), (12, .iload_n 1, 1), (13, .sipush 256, 3), (16, .if_icmp .lt 6, 3), (19, .bipush (-2), 2), (21, .ireturn, 1), (22, .aload_n 0, 1), (23, .getfield 44, 3), (26, .iload_n 1, 1), (27, .iaload, 1), (28, .ireturn, 1)], 2, 0, 0)
def PP : Cl := ("Ll1RecoverGen", [(15, ("nNt", "I", 0, false)), (16, ("nT", "I", 0, false)), (17, ("ruleCount", "I", 0, false)), (18, ("tokenCount", "I", 0, false)), (19, ("nodeCount", "I", 0, false)), (20, ("conflictCount", "I", 0, false)), (21, ("errorCount", "I", 0, false)), (22, ("sp", "I", 0, false)), (23, ("pos", "I", 0, false)), (24, ("built", "Z", 1, false)), (25, ("parsed", "Z", 1, false)), (26, ("ruleLhs", "[I", 3, false)), (27, ("ruleLen", "[I", 4, false)), (28, ("ruleRhs", "[I", 5, false)), (29, ("nullableNt", "[Z", 6, false)), (30, ("firstNt", "[I", 7, false)), (31, ("followNt", "[I", 8, false)), (32, ("table", "[I", 9, false)), (33, ("conflicts", "[I", 10, false)), (34, ("tokens", "[I", 11, false)), (35, ("nodeSym", "[I", 12, false)), (36, ("nodePar", "[I", 13, false)), (37, ("nodeDet", "[I", 14, false)), (38, ("stack", "[I", 15, false)), (39, ("errors", "[I", 16, false))], [(0, 16), (0, 16), (0, 96), (1, 8), (0, 8), (0, 8), (0, 128), (0, 256), (0, 32), (0, 256), (0, 256), (0, 256), (0, 256), (0, 64)], [(7, 26), (13, 27), (16, 28), (19, 29), (23, 30), (26, 31), (29, 32), (32, 33), (35, 34), (38, 35), (41, 36), (44, 37), (47, 38), (50, 39), (57, 15), (61, 16), (64, 17), (67, 18), (70, 19), (73, 20), (76, 21), (79, 22), (82, 23), (85, 24), (89, 25)], [(53, 2), (92, 5), (96, 9), (100, 10), (103, 11), (106, 14), (109, 7), (113, 8), (117, 12), (120, 15), (124, 13), (128, 25), (131, 26), (135, 27), (138, 24), (142, 23), (146, 28), (149, 31), (152, 29), (155, 30)], [], [(0, cm0), (2, cm2), (3, cm3), (4, cm4), (5, cm5), (6, cm6), (7, cm7), (8, cm8), (9, cm9), (10, cm10), (11, cm11), (12, cm12), (13, cm13), (14, cm14), (15, cm15), (16, cm16), (17, cm17), (18, cm18), (19, cm19), (20, cm20), (21, cm21), (22, cm22), (23, cm23), (24, cm24), (25, cm25), (26, cm26), (27, cm27), (28, cm28), (29, cm29), (30, cm30), (31, cm31), (32, cm32), (33, cm33), (34, cm34), (35, cm35), (36, cm36), (37, cm37)], 1)
def lm0 : Me := ("law", "([I)Z", 1, 2, [(0, .new 7, 3), (3, .dup, 1), (4, .iconst 3, 1), (5, .iconst 4, 1), (6, .invokespecial 9, 3), (9, .astore_n 1, 1), (10, .new 7, 3), (13, .dup, 1), (14, .iconst 3, 1), (15, .iconst 4, 1), (16, .invokespecial 9, 3), (19, .astore_n 2, 1), (20, .iconst 0, 1), (21, .istore_n 3, 1), (22, .iconst 0, 1), (23, .istore 4, 2), (25, .iload 4, 2), (27, .iconst 2, 1), (28, .iadd, 1), (29, .aload_n 0, 1), (30, .arraylength, 1), (31, .if_icmp .ge 214, 3), (34, .aload_n 0, 1), (35, .iload 4, 2), (37, .iaload, 1), (38, .bipush 7, 2), (40, .iand, 1), (41, .istore 5, 2), (43, .aload_n 0, 1), (44, .iload 4, 2), (46, .iconst 1, 1), (47, .iadd, 1), (48, .iaload, 1), (49, .bipush 7, 2), (51, .iand, 1), (52, .istore 6, 2), (54, .aload_n 0, 1), (55, .iload 4, 2), (57, .iconst 2, 1), (58, .iadd, 1), (59, .iaload, 1), (60, .bipush 15, 2), (62, .iand, 1), (63, .istore 7, 2), (65, .aload_n 1, 1), (66, .iload 7, 2), (68, .iload_n 3, 1), (69, .invokestatic 12, 3), (72, .ifCond .ne 5, 3), (75, .iconst 0, 1), (76, .ireturn, 1), (77, .iload 5, 2), (79, .iconst 2, 1), (80, .if_icmp .gt 41, 3), (83, .iload 6, 2), (85, .iconst 4, 1), (86, .if_icmp .gt 8, 3), (89, .iload 6, 2), (91, .goto 8, 3), (94, .bipush 11, 2), (96, .iload 6, 2), (98, .iadd, 1), (99, .istore 8, 2), (101, .aload_n 1, 1), (102, .iload 8, 2), (104, .invokevirtual 18, 3), (107, .aload_n 2, 1), (108, .iload 8, 2), (110, .invokevirtual 18, 3), (113, .if_icmp .eq 5, 3), (116, .iconst 0, 1), (117, .ireturn, 1), (118, .goto 121, 3), (121, .iload 5, 2), (123, .iconst 3, 1), (124, .if_icmp .eq 10, 3), (127, .iload 5, 2), (129, .bipush 7, 2), (131, .if_icmp .ne 29, 3), (134, .iload 6, 2), (136, .iconst 3, 1), (137, .iand, 1), (138, .istore 8, 2), (140, .aload_n 1, 1), (141, .iload 8, 2), (143, .invokevirtual 22, 3), (146, .aload_n 2, 1), (147, .iload 8, 2), (149, .invokevirtual 22, 3), (152, .if_icmp .eq 5, 3), (155, .iconst 0, 1), (156, .ireturn, 1), (157, .goto 82, 3), (160, .iload 5, 2), (162, .iconst 4, 1), (163, .if_icmp .ne 30, 3), (166, .iload 6, 2), (168, .bipush 6, 2), (170, .irem, 1), (171, .istore 8, 2), (173, .aload_n 1, 1), (174, .iload 8, 2), (176, .invokevirtual 26, 3), (179, .aload_n 2, 1), (180, .iload 8, 2), (182, .invokevirtual 26, 3), (185, .if_icmp .eq 5, 3), (188, .iconst 0, 1), (189, .ireturn, 1), (190, .goto 49, 3), (193, .iload 5, 2), (195, .iconst 5, 1), (196, .if_icmp .ne 30, 3), (199, .aload_n 2, 1), (200, .invokevirtual 29, 3), (203, .istore 8, 2), (205, .aload_n 1, 1), (206, .invokevirtual 29, 3), (209, .iload 8, 2), (211, .if_icmp .eq 5, 3), (214, .iconst 0, 1), (215, .ireturn, 1), (216, .iload 8, 2), (218, .ifCond .lt 5, 3), (221, .iconst 1, 1), (222, .istore_n 3, 1), (223, .goto 16, 3), (226, .aload_n 1, 1), (227, .invokevirtual 33, 3), (230, .aload_n 2, 1), (231, .invokevirtual 33, 3), (234, .if_icmp .eq 5, 3), (237, .iconst 0, 1), (238, .ireturn, 1), (239, .iinc 4 3, 3), (242, .goto (-217), 3), (245, .aload_n 2, 1), (246, .invokevirtual 29, 3), (249, .istore 4, 2), (251, .aload_n 1, 1), (252, .invokevirtual 29, 3), (255, .iload 4, 2), (257, .if_icmp .eq 5, 3), (260, .iconst 0, 1), (261, .ireturn, 1), (262, .aload_n 1, 1), (263, .invokevirtual 29, 3), (266, .iconst (-1), 1), (267, .if_icmp .eq 5, 3), (270, .iconst 0, 1), (271, .ireturn, 1), (272, .aload_n 2, 1), (273, .invokevirtual 33, 3), (276, .istore 5, 2), (278, .aload_n 1, 1), (279, .invokevirtual 33, 3), (282, .iload 5, 2), (284, .if_icmp .eq 5, 3), (287, .iconst 0, 1), (288, .ireturn, 1), (289, .aload_n 1, 1), (290, .invokevirtual 33, 3), (293, .iconst (-1), 1), (294, .if_icmp .ne 11, 3), (297, .aload_n 1, 1), (298, .iconst 3, 1), (299, .invokevirtual 26, 3), (302, .ifCond .eq 5, 3), (305, .iconst 0, 1), (306, .ireturn, 1), (307, .aload_n 1, 1), (308, .aload_n 2, 1), (309, .invokestatic 36, 3), (312, .ireturn, 1)], 9, 8, 192)
def lm3 : Me := ("extra", "(LLl1RecoverGen;IZ)Z", 3, 2, [(0, .iload_n 1, 1), (1, .ifCond .ne 18, 3), (4, .aload_n 0, 1), (5, .iconst 3, 1), (6, .invokevirtual 22, 3), (9, .iconst (-1), 1), (10, .if_icmp .ne 7, 3), (13, .iconst 1, 1), (14, .goto 4, 3), (17, .iconst 0, 1), (18, .ireturn, 1), (19, .iload_n 1, 1), (20, .iconst 1, 1), (21, .if_icmp .ne 18, 3), (24, .aload_n 0, 1), (25, .iconst (-1), 1), (26, .invokevirtual 22, 3), (29, .iconst (-1), 1), (30, .if_icmp .ne 7, 3), (33, .iconst 1, 1), (34, .goto 4, 3), (37, .iconst 0, 1), (38, .ireturn, 1), (39, .iload_n 1, 1), (40, .iconst 2, 1), (41, .if_icmp .ne 17, 3), (44, .aload_n 0, 1), (45, .iconst 0, 1), (46, .invokevirtual 18, 3), (49, .ifCond .ne 7, 3), (52, .iconst 1, 1), (53, .goto 4, 3), (56, .iconst 0, 1), (57, .ireturn, 1), (58, .iload_n 1, 1), (59, .iconst 3, 1), (60, .if_icmp .ne 17, 3), (63, .aload_n 0, 1), (64, .iconst 5, 1), (65, .invokevirtual 18, 3), (68, .ifCond .ne 7, 3), (71, .iconst 1, 1), (72, .goto 4, 3), (75, .iconst 0, 1), (76, .ireturn, 1), (77, .iload_n 1, 1), (78, .iconst 4, 1), (79, .if_icmp .ne 18, 3), (82, .aload_n 0, 1), (83, .bipush 19, 2), (85, .invokevirtual 18, 3), (88, .ifCond .ne 7, 3), (91, .iconst 1, 1), (92, .goto 4, 3), (95, .iconst 0, 1), (96, .ireturn, 1), (97, .iload_n 1, 1), (98, .iconst 5, 1), (99, .if_icmp .ne 37, 3), (102, .iload_n 2, 1), (103, .ifCond .eq 19, 3), (106, .aload_n 0, 1), (107, .invokevirtual 29, 3), (110, .iconst (-1), 1), (111, .if_icmp .ne 7, 3), (114, .iconst 1, 1), (115, .goto 20, 3), (118, .iconst 0, 1), (119, .goto 16, 3), (122, .aload_n 0, 1), (123, .invokevirtual 33, 3), (126, .iconst (-1), 1), (127, .if_icmp .ne 7, 3), (130, .iconst 1, 1), (131, .goto 4, 3), (134, .iconst 0, 1), (135, .ireturn, 1), (136, .iload_n 1, 1), (137, .bipush 6, 2), (139, .if_icmp .ne 17, 3), (142, .aload_n 0, 1), (143, .iconst 0, 1), (144, .invokevirtual 26, 3), (147, .ifCond .ne 7, 3), (150, .iconst 1, 1), (151, .goto 4, 3), (154, .iconst 0, 1), (155, .ireturn, 1), (156, .iload_n 1, 1), (157, .bipush 7, 2), (159, .if_icmp .ne 17, 3), (162, .aload_n 0, 1), (163, .iconst 5, 1), (164, .invokevirtual 26, 3), (167, .ifCond .ne 7, 3), (170, .iconst 1, 1), (171, .goto 4, 3), (174, .iconst 0, 1), (175, .ireturn, 1), (176, .iconst 1, 1), (177, .ireturn, 1)], 3, 5, 76)
def lm4 : Me := ("same", "(LLl1RecoverGen;LLl1RecoverGen;)Z", 2, 2, [(0, .iconst 0, 1), (1, .istore_n 2, 1), (2, .iload_n 2, 1), (3, .bipush 15, 2), (5, .if_icmp .ge 37, 3), (8, .iload_n 2, 1), (9, .iconst 5, 1), (10, .idiv, 1), (11, .istore_n 3, 1), (12, .iload_n 2, 1), (13, .iconst 5, 1), (14, .irem, 1), (15, .istore 4, 2), (17, .aload_n 0, 1), (18, .iload_n 3, 1), (19, .iload 4, 2), (21, .invokevirtual 40, 3), (24, .aload_n 1, 1), (25, .iload_n 3, 1), (26, .iload 4, 2), (28, .invokevirtual 40, 3), (31, .if_icmp .eq 5, 3), (34, .iconst 0, 1), (35, .ireturn, 1), (36, .iinc 2 1, 3), (39, .goto (-37), 3), (42, .iconst 0, 1), (43, .istore_n 2, 1), (44, .iload_n 2, 1), (45, .iconst 3, 1), (46, .if_icmp .ge 50, 3), (49, .aload_n 0, 1), (50, .iload_n 2, 1), (51, .invokevirtual 44, 3), (54, .aload_n 1, 1), (55, .iload_n 2, 1), (56, .invokevirtual 44, 3), (59, .if_icmp .ne 29, 3), (62, .aload_n 0, 1), (63, .iload_n 2, 1), (64, .invokevirtual 47, 3), (67, .aload_n 1, 1), (68, .iload_n 2, 1), (69, .invokevirtual 47, 3), (72, .if_icmp .ne 16, 3), (75, .aload_n 0, 1), (76, .iload_n 2, 1), (77, .invokevirtual 50, 3), (80, .aload_n 1, 1), (81, .iload_n 2, 1), (82, .invokevirtual 50, 3), (85, .if_icmp .eq 5, 3), (88, .iconst 0, 1), (89, .ireturn, 1), (90, .iinc 2 1, 3), (93, .goto (-49), 3), (96, .iconst 0, 1), (97, .istore_n 2, 1), (98, .iload_n 2, 1), (99, .bipush 81, 2), (101, .if_icmp .ge 24, 3), (104, .aload_n 0, 1), (105, .iload_n 2, 1), (106, .invokevirtual 53, 3), (109, .aload_n 1, 1), (110, .iload_n 2, 1), (111, .invokevirtual 53, 3), (114, .if_icmp .eq 5, 3), (117, .iconst 0, 1), (118, .ireturn, 1), (119, .iinc 2 1, 3), (122, .goto (-24), 3), (125, .aload_n 0, 1), (126, .invokevirtual 56, 3), (129, .aload_n 1, 1), (130, .invokevirtual 56, 3), (133, .if_icmp .ne 14, 3), (136, .aload_n 0, 1), (137, .invokevirtual 59, 3), (140, .aload_n 1, 1), (141, .invokevirtual 59, 3), (144, .if_icmp .eq 5, 3), (147, .iconst 0, 1), (148, .ireturn, 1), (149, .iconst 0, 1), (150, .istore_n 2, 1), (151, .iload_n 2, 1), (152, .sipush 256, 3), (155, .if_icmp .ge 50, 3), (158, .aload_n 0, 1), (159, .iload_n 2, 1), (160, .invokevirtual 62, 3), (163, .aload_n 1, 1), (164, .iload_n 2, 1), (165, .invokevirtual 62, 3), (168, .if_icmp .ne 29, 3), (171, .aload_n 0, 1), (172, .iload_n 2, 1), (173, .invokevirtual 65, 3), (176, .aload_n 1, 1), (177, .iload_n 2, 1), (178, .invokevirtual 65, 3), (181, .if_icmp .ne 16, 3), (184, .aload_n 0, 1), (185, .iload_n 2, 1), (186, .invokevirtual 68, 3), (189, .aload_n 1, 1), (190, .iload_n 2, 1), (191, .invokevirtual 68, 3), (194, .if_icmp .eq 5, 3), (197, .iconst 0, 1), (198, .ireturn, 1), (199, .iinc 2 1, 3), (202, .goto (-51), 3), (205, .iconst 0, 1), (206, .istore_n 2, 1), (207, .iload_n 2, 1), (208, .bipush 64, 2), (210, .if_icmp .ge 24, 3), (213, .aload_n 0, 1), (214, .iload_n 2, 1), (215, .invokevirtual 71, 3), (218, .aload_n 1, 1), (219, .iload_n 2, 1), (220, .invokevirtual 71, 3), (223, .if_icmp .eq 5, 3), (226, .iconst 0, 1), (227, .ireturn, 1), (228, .iinc 2 1, 3), (231, .goto (-24), 3), (234, .iconst 1, 1), (235, .ireturn, 1)], 5, 1, 15)
def QQ : Lw := ("Ll1RecoverGenL7", [(12, 3), (36, 4)], [(18, 4), (22, 3), (26, 21), (29, 6), (33, 22), (40, 19), (44, 16), (47, 17), (50, 18), (53, 20), (56, 34), (59, 32), (62, 35), (65, 36), (68, 37), (71, 33)], 9, 7, 25, [], [(0, lm0), (3, lm3), (4, lm4)], 72, 6848)
set_option maxRecDepth 100000
set_option maxHeartbeats 1000000
theorem dk_c0 : chk prog_1_method_1_code cm0.cd = true := by decide +kernel
theorem dk_c2 : chk prog_1_method_2_code cm2.cd = true := by decide +kernel
theorem dk_l3 : chk method_3_code lm3.cd = true := by decide +kernel
theorem dk_c3 : chk prog_1_method_3_code cm3.cd = true := by decide +kernel
theorem dk_c4 : chk prog_1_method_4_code cm4.cd = true := by decide +kernel
theorem dk_c5 : chk prog_1_method_5_code cm5.cd = true := by decide +kernel
theorem dk_c6 : chk prog_1_method_6_code cm6.cd = true := by decide +kernel
theorem dk_c9 : chk prog_1_method_9_code cm9.cd = true := by decide +kernel
theorem dk_c7 : chk prog_1_method_7_code cm7.cd = true := by decide +kernel
theorem dk_c10 : chk prog_1_method_10_code cm10.cd = true := by decide +kernel
theorem dk_c8 : chk prog_1_method_8_code cm8.cd = true := by decide +kernel
theorem dk_c11 : chk prog_1_method_11_code cm11.cd = true := by decide +kernel
theorem dk_c12 : chk prog_1_method_12_code cm12.cd = true := by decide +kernel
theorem dk_c14 : chk prog_1_method_14_code cm14.cd = true := by decide +kernel
theorem dk_c15 : chk prog_1_method_15_code cm15.cd = true := by decide +kernel
theorem dk_c13 : chk prog_1_method_13_code cm13.cd = true := by decide +kernel
theorem dk_c22 : chk prog_1_method_22_code cm22.cd = true := by decide +kernel
theorem dk_c27 : chk prog_1_method_27_code cm27.cd = true := by decide +kernel
theorem dk_c23 : chk prog_1_method_23_code cm23.cd = true := by decide +kernel
theorem dk_c28 : chk prog_1_method_28_code cm28.cd = true := by decide +kernel
theorem dk_c25 : chk prog_1_method_25_code cm25.cd = true := by decide +kernel
theorem dk_c21 : chk prog_1_method_21_code cm21.cd = true := by decide +kernel
theorem dk_l4 : chk method_4_code lm4.cd = true := by decide +kernel
theorem dk_c19 : chk prog_1_method_19_code cm19.cd = true := by decide +kernel
theorem dk_c16 : chk prog_1_method_16_code cm16.cd = true := by decide +kernel
theorem dk_c17 : chk prog_1_method_17_code cm17.cd = true := by decide +kernel
theorem dk_c18 : chk prog_1_method_18_code cm18.cd = true := by decide +kernel
theorem dk_c20 : chk prog_1_method_20_code cm20.cd = true := by decide +kernel
theorem dk_c34 : chk prog_1_method_34_code cm34.cd = true := by decide +kernel
theorem dk_c32 : chk prog_1_method_32_code cm32.cd = true := by decide +kernel
theorem dk_c35 : chk prog_1_method_35_code cm35.cd = true := by decide +kernel
theorem dk_c36 : chk prog_1_method_36_code cm36.cd = true := by decide +kernel
theorem dk_c37 : chk prog_1_method_37_code cm37.cd = true := by decide +kernel
theorem dk_c33 : chk prog_1_method_33_code cm33.cd = true := by decide +kernel
theorem dk_c31 : chk prog_1_method_31_code cm31.cd = true := by decide +kernel
theorem dk_c30 : chk prog_1_method_30_code cm30.cd = true := by decide +kernel
theorem dk_c24 : chk prog_1_method_24_code cm24.cd = true := by decide +kernel
theorem dk_c29 : chk prog_1_method_29_code cm29.cd = true := by decide +kernel
theorem dk_c26 : chk prog_1_method_26_code cm26.cd = true := by decide +kernel
theorem dk_l0 : chk code lm0.cd = true := by decide +kernel
theorem pk_c0 : parseMethodDescriptor "(II)V" = some ⟨[.int, .int], none⟩ := by decide +kernel
theorem pk_c2 : parseMethodDescriptor "(III)I" = some ⟨[.int, .int, .int], some .int⟩ := by decide +kernel
theorem pk_l3 : parseMethodDescriptor "(LLl1RecoverGen;IZ)Z" = some ⟨[.object "Ll1RecoverGen", .int, .boolean], some .boolean⟩ := by decide +kernel
theorem pk_c3 : parseMethodDescriptor "(I)I" = some ⟨[.int], some .int⟩ := by decide +kernel
theorem pk_c4 : parseMethodDescriptor "(I)Z" = some ⟨[.int], some .boolean⟩ := by decide +kernel
theorem pk_c5 : parseMethodDescriptor "(I)Z" = some ⟨[.int], some .boolean⟩ := by decide +kernel
theorem pk_c6 : parseMethodDescriptor "()I" = some ⟨[], some .int⟩ := by decide +kernel
theorem pk_c9 : parseMethodDescriptor "()Z" = some ⟨[], some .boolean⟩ := by decide +kernel
theorem pk_c7 : parseMethodDescriptor "(II)Z" = some ⟨[.int, .int], some .boolean⟩ := by decide +kernel
theorem pk_c10 : parseMethodDescriptor "()Z" = some ⟨[], some .boolean⟩ := by decide +kernel
theorem pk_c8 : parseMethodDescriptor "(II)I" = some ⟨[.int, .int], some .int⟩ := by decide +kernel
theorem pk_c11 : parseMethodDescriptor "()Z" = some ⟨[], some .boolean⟩ := by decide +kernel
theorem pk_c12 : parseMethodDescriptor "(I)Z" = some ⟨[.int], some .boolean⟩ := by decide +kernel
theorem pk_c14 : parseMethodDescriptor "()V" = some ⟨[], none⟩ := by decide +kernel
theorem pk_c15 : parseMethodDescriptor "(I)V" = some ⟨[.int], none⟩ := by decide +kernel
theorem pk_c13 : parseMethodDescriptor "(I)I" = some ⟨[.int], some .int⟩ := by decide +kernel
theorem pk_c22 : parseMethodDescriptor "()I" = some ⟨[], some .int⟩ := by decide +kernel
theorem pk_c27 : parseMethodDescriptor "(II)Z" = some ⟨[.int, .int], some .boolean⟩ := by decide +kernel
theorem pk_c23 : parseMethodDescriptor "()I" = some ⟨[], some .int⟩ := by decide +kernel
theorem pk_c28 : parseMethodDescriptor "(II)Z" = some ⟨[.int, .int], some .boolean⟩ := by decide +kernel
theorem pk_c25 : parseMethodDescriptor "()V" = some ⟨[], none⟩ := by decide +kernel
theorem pk_c21 : parseMethodDescriptor "(I)Z" = some ⟨[.int], some .boolean⟩ := by decide +kernel
theorem pk_l4 : parseMethodDescriptor "(LLl1RecoverGen;LLl1RecoverGen;)Z" = some ⟨[.object "Ll1RecoverGen", .object "Ll1RecoverGen"], some .boolean⟩ := by decide +kernel
theorem pk_c19 : parseMethodDescriptor "(II)I" = some ⟨[.int, .int], some .int⟩ := by decide +kernel
theorem pk_c16 : parseMethodDescriptor "(I)Z" = some ⟨[.int], some .boolean⟩ := by decide +kernel
theorem pk_c17 : parseMethodDescriptor "(I)I" = some ⟨[.int], some .int⟩ := by decide +kernel
theorem pk_c18 : parseMethodDescriptor "(I)I" = some ⟨[.int], some .int⟩ := by decide +kernel
theorem pk_c20 : parseMethodDescriptor "(I)I" = some ⟨[.int], some .int⟩ := by decide +kernel
theorem pk_c34 : parseMethodDescriptor "()I" = some ⟨[], some .int⟩ := by decide +kernel
theorem pk_c32 : parseMethodDescriptor "()I" = some ⟨[], some .int⟩ := by decide +kernel
theorem pk_c35 : parseMethodDescriptor "(I)I" = some ⟨[.int], some .int⟩ := by decide +kernel
theorem pk_c36 : parseMethodDescriptor "(I)I" = some ⟨[.int], some .int⟩ := by decide +kernel
theorem pk_c37 : parseMethodDescriptor "(I)I" = some ⟨[.int], some .int⟩ := by decide +kernel
theorem pk_c33 : parseMethodDescriptor "(I)I" = some ⟨[.int], some .int⟩ := by decide +kernel
theorem pk_c31 : parseMethodDescriptor "(I)V" = some ⟨[.int], none⟩ := by decide +kernel
theorem pk_c30 : parseMethodDescriptor "(I)I" = some ⟨[.int], some .int⟩ := by decide +kernel
theorem pk_c24 : parseMethodDescriptor "(III)V" = some ⟨[.int, .int, .int], none⟩ := by decide +kernel
theorem pk_c29 : parseMethodDescriptor "(I)V" = some ⟨[.int], none⟩ := by decide +kernel
theorem pk_c26 : parseMethodDescriptor "(II)V" = some ⟨[.int, .int], none⟩ := by decide +kernel
theorem lkC (Z : State) (a0 : Array Value) (hw : ∀ d ∈ tables_1, d.before a0 Z = true) : LinkC PP Z a0 :=
  ⟨⟨⟨25, (hw _ (List.mem_of_getElem? (i := 1) rfl))⟩, (hw _ (List.mem_of_getElem? (i := 2) rfl))⟩,
   asc_all (⟨by intro z h; obtain rfl : ("ruleLhs", "[I", 3, false) = z := Option.some.inj h; exact (hw _ (List.mem_of_getElem? (i := 10) rfl)), by intro z h; obtain rfl : ("ruleLen", "[I", 4, false) = z := Option.some.inj h; exact (hw _ (List.mem_of_getElem? (i := 12) rfl)), by intro z h; obtain rfl : ("ruleRhs", "[I", 5, false) = z := Option.some.inj h; exact (hw _ (List.mem_of_getElem? (i := 14) rfl)), by intro z h; obtain rfl : ("nullableNt", "[Z", 6, false) = z := Option.some.inj h; exact (hw _ (List.mem_of_getElem? (i := 17) rfl)), by intro z h; obtain rfl : ("firstNt", "[I", 7, false) = z := Option.some.inj h; exact (hw _ (List.mem_of_getElem? (i := 19) rfl)), by intro z h; obtain rfl : ("followNt", "[I", 8, false) = z := Option.some.inj h; exact (hw _ (List.mem_of_getElem? (i := 21) rfl)), by intro z h; obtain rfl : ("table", "[I", 9, false) = z := Option.some.inj h; exact (hw _ (List.mem_of_getElem? (i := 23) rfl)), by intro z h; obtain rfl : ("conflicts", "[I", 10, false) = z := Option.some.inj h; exact (hw _ (List.mem_of_getElem? (i := 25) rfl)), by intro z h; obtain rfl : ("tokens", "[I", 11, false) = z := Option.some.inj h; exact (hw _ (List.mem_of_getElem? (i := 27) rfl)), by intro z h; obtain rfl : ("nodeSym", "[I", 12, false) = z := Option.some.inj h; exact (hw _ (List.mem_of_getElem? (i := 29) rfl)), by intro z h; obtain rfl : ("nodePar", "[I", 13, false) = z := Option.some.inj h; exact (hw _ (List.mem_of_getElem? (i := 31) rfl)), by intro z h; obtain rfl : ("nodeDet", "[I", 14, false) = z := Option.some.inj h; exact (hw _ (List.mem_of_getElem? (i := 33) rfl)), by intro z h; obtain rfl : ("stack", "[I", 15, false) = z := Option.some.inj h; exact (hw _ (List.mem_of_getElem? (i := 35) rfl)), by intro z h; obtain rfl : ("errors", "[I", 16, false) = z := Option.some.inj h; exact (hw _ (List.mem_of_getElem? (i := 37) rfl)), by intro z h; obtain rfl : ("nNt", "I", 0, false) = z := Option.some.inj h; exact (hw _ (List.mem_of_getElem? (i := 43) rfl)), by intro z h; obtain rfl : ("nT", "I", 0, false) = z := Option.some.inj h; exact (hw _ (List.mem_of_getElem? (i := 45) rfl)), by intro z h; obtain rfl : ("ruleCount", "I", 0, false) = z := Option.some.inj h; exact (hw _ (List.mem_of_getElem? (i := 47) rfl)), by intro z h; obtain rfl : ("tokenCount", "I", 0, false) = z := Option.some.inj h; exact (hw _ (List.mem_of_getElem? (i := 49) rfl)), by intro z h; obtain rfl : ("nodeCount", "I", 0, false) = z := Option.some.inj h; exact (hw _ (List.mem_of_getElem? (i := 51) rfl)), by intro z h; obtain rfl : ("conflictCount", "I", 0, false) = z := Option.some.inj h; exact (hw _ (List.mem_of_getElem? (i := 53) rfl)), by intro z h; obtain rfl : ("errorCount", "I", 0, false) = z := Option.some.inj h; exact (hw _ (List.mem_of_getElem? (i := 55) rfl)), by intro z h; obtain rfl : ("sp", "I", 0, false) = z := Option.some.inj h; exact (hw _ (List.mem_of_getElem? (i := 57) rfl)), by intro z h; obtain rfl : ("pos", "I", 0, false) = z := Option.some.inj h; exact (hw _ (List.mem_of_getElem? (i := 59) rfl)), by intro z h; obtain rfl : ("built", "Z", 1, false) = z := Option.some.inj h; exact (hw _ (List.mem_of_getElem? (i := 61) rfl)), by intro z h; obtain rfl : ("parsed", "Z", 1, false) = z := Option.some.inj h; exact (hw _ (List.mem_of_getElem? (i := 63) rfl)), trivial⟩),
   asc_all (⟨(hw _ (List.mem_of_getElem? (i := 44) rfl)), (hw _ (List.mem_of_getElem? (i := 46) rfl)), (hw _ (List.mem_of_getElem? (i := 48) rfl)), (hw _ (List.mem_of_getElem? (i := 50) rfl)), (hw _ (List.mem_of_getElem? (i := 52) rfl)), (hw _ (List.mem_of_getElem? (i := 54) rfl)), (hw _ (List.mem_of_getElem? (i := 56) rfl)), (hw _ (List.mem_of_getElem? (i := 58) rfl)), (hw _ (List.mem_of_getElem? (i := 60) rfl)), (hw _ (List.mem_of_getElem? (i := 62) rfl)), (hw _ (List.mem_of_getElem? (i := 64) rfl)), (hw _ (List.mem_of_getElem? (i := 11) rfl)), (hw _ (List.mem_of_getElem? (i := 13) rfl)), (hw _ (List.mem_of_getElem? (i := 15) rfl)), (hw _ (List.mem_of_getElem? (i := 18) rfl)), (hw _ (List.mem_of_getElem? (i := 20) rfl)), (hw _ (List.mem_of_getElem? (i := 22) rfl)), (hw _ (List.mem_of_getElem? (i := 24) rfl)), (hw _ (List.mem_of_getElem? (i := 26) rfl)), (hw _ (List.mem_of_getElem? (i := 28) rfl)), (hw _ (List.mem_of_getElem? (i := 30) rfl)), (hw _ (List.mem_of_getElem? (i := 32) rfl)), (hw _ (List.mem_of_getElem? (i := 34) rfl)), (hw _ (List.mem_of_getElem? (i := 36) rfl)), (hw _ (List.mem_of_getElem? (i := 38) rfl)), trivial⟩),
   asc_all (⟨(by decide +kernel), (by decide +kernel), (by decide +kernel), (by decide +kernel), (by decide +kernel), (by decide +kernel), (by decide +kernel), (by decide +kernel), (by decide +kernel), (by decide +kernel), (by decide +kernel), (by decide +kernel), (by decide +kernel), (by decide +kernel), (by decide +kernel), (by decide +kernel), (by decide +kernel), (by decide +kernel), (by decide +kernel), (by decide +kernel), (by decide +kernel), (by decide +kernel), (by decide +kernel), (by decide +kernel), (by decide +kernel), trivial⟩),
   dst_ok (by decide +kernel),
   lst_all (⟨⟨by decide, (hw _ (List.mem_of_getElem? (i := 9) rfl))⟩, ⟨by decide, (hw _ (List.mem_of_getElem? (i := 9) rfl))⟩, ⟨by decide, (hw _ (List.mem_of_getElem? (i := 9) rfl))⟩, ⟨by decide, (hw _ (List.mem_of_getElem? (i := 16) rfl))⟩, ⟨by decide, (hw _ (List.mem_of_getElem? (i := 9) rfl))⟩, ⟨by decide, (hw _ (List.mem_of_getElem? (i := 9) rfl))⟩, ⟨by decide, (hw _ (List.mem_of_getElem? (i := 9) rfl))⟩, ⟨by decide, (hw _ (List.mem_of_getElem? (i := 9) rfl))⟩, ⟨by decide, (hw _ (List.mem_of_getElem? (i := 9) rfl))⟩, ⟨by decide, (hw _ (List.mem_of_getElem? (i := 9) rfl))⟩, ⟨by decide, (hw _ (List.mem_of_getElem? (i := 9) rfl))⟩, ⟨by decide, (hw _ (List.mem_of_getElem? (i := 9) rfl))⟩, ⟨by decide, (hw _ (List.mem_of_getElem? (i := 9) rfl))⟩, ⟨by decide, (hw _ (List.mem_of_getElem? (i := 9) rfl))⟩, trivial⟩),
   asc_all (trivial),
   ⟨(hw _ (List.mem_of_getElem? (i := 6) rfl)), (hw _ (List.mem_of_getElem? (i := 7) rfl)), (hw _ (List.mem_of_getElem? (i := 8) rfl))⟩,
   asc_all (⟨⟨prog_1_method_1_code, [.int, .int], (hw _ (List.mem_of_getElem? (i := 5) rfl)), chk_ok dk_c0, pk_c0, rfl⟩, ⟨prog_1_method_2_code, [.int, .int, .int], (hw _ (List.mem_of_getElem? (i := 42) rfl)), chk_ok dk_c2, pk_c2, rfl⟩, ⟨prog_1_method_3_code, [.int], (hw _ (List.mem_of_getElem? (i := 73) rfl)), chk_ok dk_c3, pk_c3, rfl⟩, ⟨prog_1_method_4_code, [.int], (hw _ (List.mem_of_getElem? (i := 78) rfl)), chk_ok dk_c4, pk_c4, rfl⟩, ⟨prog_1_method_5_code, [.int], (hw _ (List.mem_of_getElem? (i := 82) rfl)), chk_ok dk_c5, pk_c5, rfl⟩, ⟨prog_1_method_6_code, [], (hw _ (List.mem_of_getElem? (i := 87) rfl)), chk_ok dk_c6, pk_c6, rfl⟩, ⟨prog_1_method_7_code, [.int, .int], (hw _ (List.mem_of_getElem? (i := 95) rfl)), chk_ok dk_c7, pk_c7, rfl⟩, ⟨prog_1_method_8_code, [.int, .int], (hw _ (List.mem_of_getElem? (i := 103) rfl)), chk_ok dk_c8, pk_c8, rfl⟩, ⟨prog_1_method_9_code, [], (hw _ (List.mem_of_getElem? (i := 91) rfl)), chk_ok dk_c9, pk_c9, rfl⟩, ⟨prog_1_method_10_code, [], (hw _ (List.mem_of_getElem? (i := 99) rfl)), chk_ok dk_c10, pk_c10, rfl⟩, ⟨prog_1_method_11_code, [], (hw _ (List.mem_of_getElem? (i := 107) rfl)), chk_ok dk_c11, pk_c11, rfl⟩, ⟨prog_1_method_12_code, [.int], (hw _ (List.mem_of_getElem? (i := 111) rfl)), chk_ok dk_c12, pk_c12, rfl⟩, ⟨prog_1_method_13_code, [.int], (hw _ (List.mem_of_getElem? (i := 123) rfl)), chk_ok dk_c13, pk_c13, rfl⟩, ⟨prog_1_method_14_code, [], (hw _ (List.mem_of_getElem? (i := 115) rfl)), chk_ok dk_c14, pk_c14, rfl⟩, ⟨prog_1_method_15_code, [.int], (hw _ (List.mem_of_getElem? (i := 119) rfl)), chk_ok dk_c15, pk_c15, rfl⟩, ⟨prog_1_method_16_code, [.int], (hw _ (List.mem_of_getElem? (i := 162) rfl)), chk_ok dk_c16, pk_c16, rfl⟩, ⟨prog_1_method_17_code, [.int], (hw _ (List.mem_of_getElem? (i := 167) rfl)), chk_ok dk_c17, pk_c17, rfl⟩, ⟨prog_1_method_18_code, [.int], (hw _ (List.mem_of_getElem? (i := 172) rfl)), chk_ok dk_c18, pk_c18, rfl⟩, ⟨prog_1_method_19_code, [.int, .int], (hw _ (List.mem_of_getElem? (i := 157) rfl)), chk_ok dk_c19, pk_c19, rfl⟩, ⟨prog_1_method_20_code, [.int], (hw _ (List.mem_of_getElem? (i := 177) rfl)), chk_ok dk_c20, pk_c20, rfl⟩, ⟨prog_1_method_21_code, [.int], (hw _ (List.mem_of_getElem? (i := 149) rfl)), chk_ok dk_c21, pk_c21, rfl⟩, ⟨prog_1_method_22_code, [], (hw _ (List.mem_of_getElem? (i := 128) rfl)), chk_ok dk_c22, pk_c22, rfl⟩, ⟨prog_1_method_23_code, [], (hw _ (List.mem_of_getElem? (i := 136) rfl)), chk_ok dk_c23, pk_c23, rfl⟩, ⟨prog_1_method_24_code, [.int, .int, .int], (hw _ (List.mem_of_getElem? (i := 219) rfl)), chk_ok dk_c24, pk_c24, rfl⟩, ⟨prog_1_method_25_code, [], (hw _ (List.mem_of_getElem? (i := 144) rfl)), chk_ok dk_c25, pk_c25, rfl⟩, ⟨prog_1_method_26_code, [.int, .int], (hw _ (List.mem_of_getElem? (i := 227) rfl)), chk_ok dk_c26, pk_c26, rfl⟩, ⟨prog_1_method_27_code, [.int, .int], (hw _ (List.mem_of_getElem? (i := 132) rfl)), chk_ok dk_c27, pk_c27, rfl⟩, ⟨prog_1_method_28_code, [.int, .int], (hw _ (List.mem_of_getElem? (i := 140) rfl)), chk_ok dk_c28, pk_c28, rfl⟩, ⟨prog_1_method_29_code, [.int], (hw _ (List.mem_of_getElem? (i := 223) rfl)), chk_ok dk_c29, pk_c29, rfl⟩, ⟨prog_1_method_30_code, [.int], (hw _ (List.mem_of_getElem? (i := 215) rfl)), chk_ok dk_c30, pk_c30, rfl⟩, ⟨prog_1_method_31_code, [.int], (hw _ (List.mem_of_getElem? (i := 211) rfl)), chk_ok dk_c31, pk_c31, rfl⟩, ⟨prog_1_method_32_code, [], (hw _ (List.mem_of_getElem? (i := 187) rfl)), chk_ok dk_c32, pk_c32, rfl⟩, ⟨prog_1_method_33_code, [.int], (hw _ (List.mem_of_getElem? (i := 207) rfl)), chk_ok dk_c33, pk_c33, rfl⟩, ⟨prog_1_method_34_code, [], (hw _ (List.mem_of_getElem? (i := 182) rfl)), chk_ok dk_c34, pk_c34, rfl⟩, ⟨prog_1_method_35_code, [.int], (hw _ (List.mem_of_getElem? (i := 192) rfl)), chk_ok dk_c35, pk_c35, rfl⟩, ⟨prog_1_method_36_code, [.int], (hw _ (List.mem_of_getElem? (i := 197) rfl)), chk_ok dk_c36, pk_c36, rfl⟩, ⟨prog_1_method_37_code, [.int], (hw _ (List.mem_of_getElem? (i := 202) rfl)), chk_ok dk_c37, pk_c37, rfl⟩, trivial⟩),
   asc_all (⟨by intro z h; obtain rfl : cm2 = z := Option.some.inj h; exact ⟨(hw _ (List.mem_of_getElem? (i := 39) rfl)), (hw _ (List.mem_of_getElem? (i := 40) rfl)), Or.inl (hw _ (List.mem_of_getElem? (i := 41) rfl))⟩, by intro z h; obtain rfl : cm5 = z := Option.some.inj h; exact ⟨(hw _ (List.mem_of_getElem? (i := 79) rfl)), (hw _ (List.mem_of_getElem? (i := 80) rfl)), Or.inl (hw _ (List.mem_of_getElem? (i := 81) rfl))⟩, by intro z h; obtain rfl : cm9 = z := Option.some.inj h; exact ⟨(hw _ (List.mem_of_getElem? (i := 88) rfl)), (hw _ (List.mem_of_getElem? (i := 89) rfl)), Or.inl (hw _ (List.mem_of_getElem? (i := 90) rfl))⟩, by intro z h; obtain rfl : cm10 = z := Option.some.inj h; exact ⟨(hw _ (List.mem_of_getElem? (i := 96) rfl)), (hw _ (List.mem_of_getElem? (i := 97) rfl)), Or.inl (hw _ (List.mem_of_getElem? (i := 98) rfl))⟩, by intro z h; obtain rfl : cm11 = z := Option.some.inj h; exact ⟨(hw _ (List.mem_of_getElem? (i := 104) rfl)), (hw _ (List.mem_of_getElem? (i := 105) rfl)), Or.inl (hw _ (List.mem_of_getElem? (i := 106) rfl))⟩, by intro z h; obtain rfl : cm14 = z := Option.some.inj h; exact ⟨(hw _ (List.mem_of_getElem? (i := 112) rfl)), (hw _ (List.mem_of_getElem? (i := 113) rfl)), Or.inl (hw _ (List.mem_of_getElem? (i := 114) rfl))⟩, by intro z h; obtain rfl : cm7 = z := Option.some.inj h; exact ⟨(hw _ (List.mem_of_getElem? (i := 92) rfl)), (hw _ (List.mem_of_getElem? (i := 93) rfl)), Or.inl (hw _ (List.mem_of_getElem? (i := 94) rfl))⟩, by intro z h; obtain rfl : cm8 = z := Option.some.inj h; exact ⟨(hw _ (List.mem_of_getElem? (i := 100) rfl)), (hw _ (List.mem_of_getElem? (i := 101) rfl)), Or.inl (hw _ (List.mem_of_getElem? (i := 102) rfl))⟩, by intro z h; obtain rfl : cm12 = z := Option.some.inj h; exact ⟨(hw _ (List.mem_of_getElem? (i := 108) rfl)), (hw _ (List.mem_of_getElem? (i := 109) rfl)), Or.inl (hw _ (List.mem_of_getElem? (i := 110) rfl))⟩, by intro z h; obtain rfl : cm15 = z := Option.some.inj h; exact ⟨(hw _ (List.mem_of_getElem? (i := 116) rfl)), (hw _ (List.mem_of_getElem? (i := 117) rfl)), Or.inl (hw _ (List.mem_of_getElem? (i := 118) rfl))⟩, by intro z h; obtain rfl : cm13 = z := Option.some.inj h; exact ⟨(hw _ (List.mem_of_getElem? (i := 120) rfl)), (hw _ (List.mem_of_getElem? (i := 121) rfl)), Or.inl (hw _ (List.mem_of_getElem? (i := 122) rfl))⟩, by intro z h; obtain rfl : cm25 = z := Option.some.inj h; exact ⟨(hw _ (List.mem_of_getElem? (i := 141) rfl)), (hw _ (List.mem_of_getElem? (i := 142) rfl)), Or.inl (hw _ (List.mem_of_getElem? (i := 143) rfl))⟩, by intro z h; obtain rfl : cm26 = z := Option.some.inj h; exact ⟨(hw _ (List.mem_of_getElem? (i := 224) rfl)), (hw _ (List.mem_of_getElem? (i := 225) rfl)), Or.inl (hw _ (List.mem_of_getElem? (i := 226) rfl))⟩, by intro z h; obtain rfl : cm27 = z := Option.some.inj h; exact ⟨(hw _ (List.mem_of_getElem? (i := 129) rfl)), (hw _ (List.mem_of_getElem? (i := 130) rfl)), Or.inl (hw _ (List.mem_of_getElem? (i := 131) rfl))⟩, by intro z h; obtain rfl : cm24 = z := Option.some.inj h; exact ⟨(hw _ (List.mem_of_getElem? (i := 216) rfl)), (hw _ (List.mem_of_getElem? (i := 217) rfl)), Or.inl (hw _ (List.mem_of_getElem? (i := 218) rfl))⟩, by intro z h; obtain rfl : cm23 = z := Option.some.inj h; exact ⟨(hw _ (List.mem_of_getElem? (i := 133) rfl)), (hw _ (List.mem_of_getElem? (i := 134) rfl)), Or.inl (hw _ (List.mem_of_getElem? (i := 135) rfl))⟩, by intro z h; obtain rfl : cm28 = z := Option.some.inj h; exact ⟨(hw _ (List.mem_of_getElem? (i := 137) rfl)), (hw _ (List.mem_of_getElem? (i := 138) rfl)), Or.inl (hw _ (List.mem_of_getElem? (i := 139) rfl))⟩, by intro z h; obtain rfl : cm31 = z := Option.some.inj h; exact ⟨(hw _ (List.mem_of_getElem? (i := 208) rfl)), (hw _ (List.mem_of_getElem? (i := 209) rfl)), Or.inl (hw _ (List.mem_of_getElem? (i := 210) rfl))⟩, by intro z h; obtain rfl : cm29 = z := Option.some.inj h; exact ⟨(hw _ (List.mem_of_getElem? (i := 220) rfl)), (hw _ (List.mem_of_getElem? (i := 221) rfl)), Or.inl (hw _ (List.mem_of_getElem? (i := 222) rfl))⟩, by intro z h; obtain rfl : cm30 = z := Option.some.inj h; exact ⟨(hw _ (List.mem_of_getElem? (i := 212) rfl)), (hw _ (List.mem_of_getElem? (i := 213) rfl)), Or.inl (hw _ (List.mem_of_getElem? (i := 214) rfl))⟩, trivial⟩),
   (by first | (simp [plainName, overriddenIn]; done) | decide +kernel),
   (by decide),
   (by intro me h; obtain rfl : cm0 = me := Option.some.inj h; rfl)⟩
theorem lkL (Z : State) (a0 : Array Value) (hw : ∀ d ∈ tables_1, d.before a0 Z = true) : LinkL PP QQ Z a0 :=
  ⟨⟨(hw _ (List.mem_of_getElem? (i := 0) rfl)), (hw _ (List.mem_of_getElem? (i := 1) rfl))⟩,
   (by intro me h; obtain rfl : cm0 = me := Option.some.inj h; exact ⟨(hw _ (List.mem_of_getElem? (i := 3) rfl)), (hw _ (List.mem_of_getElem? (i := 4) rfl)), rfl⟩),
   asc_all (⟨by intro z h; obtain rfl : cm4 = z := Option.some.inj h; exact ⟨(hw _ (List.mem_of_getElem? (i := 74) rfl)), (hw _ (List.mem_of_getElem? (i := 75) rfl)), (hw _ (List.mem_of_getElem? (i := 76) rfl)), (hw _ (List.mem_of_getElem? (i := 77) rfl))⟩, by intro z h; obtain rfl : cm3 = z := Option.some.inj h; exact ⟨(hw _ (List.mem_of_getElem? (i := 69) rfl)), (hw _ (List.mem_of_getElem? (i := 70) rfl)), (hw _ (List.mem_of_getElem? (i := 71) rfl)), (hw _ (List.mem_of_getElem? (i := 72) rfl))⟩, by intro z h; obtain rfl : cm21 = z := Option.some.inj h; exact ⟨(hw _ (List.mem_of_getElem? (i := 145) rfl)), (hw _ (List.mem_of_getElem? (i := 146) rfl)), (hw _ (List.mem_of_getElem? (i := 147) rfl)), (hw _ (List.mem_of_getElem? (i := 148) rfl))⟩, by intro z h; obtain rfl : cm6 = z := Option.some.inj h; exact ⟨(hw _ (List.mem_of_getElem? (i := 83) rfl)), (hw _ (List.mem_of_getElem? (i := 84) rfl)), (hw _ (List.mem_of_getElem? (i := 85) rfl)), (hw _ (List.mem_of_getElem? (i := 86) rfl))⟩, by intro z h; obtain rfl : cm22 = z := Option.some.inj h; exact ⟨(hw _ (List.mem_of_getElem? (i := 124) rfl)), (hw _ (List.mem_of_getElem? (i := 125) rfl)), (hw _ (List.mem_of_getElem? (i := 126) rfl)), (hw _ (List.mem_of_getElem? (i := 127) rfl))⟩, by intro z h; obtain rfl : cm19 = z := Option.some.inj h; exact ⟨(hw _ (List.mem_of_getElem? (i := 153) rfl)), (hw _ (List.mem_of_getElem? (i := 154) rfl)), (hw _ (List.mem_of_getElem? (i := 155) rfl)), (hw _ (List.mem_of_getElem? (i := 156) rfl))⟩, by intro z h; obtain rfl : cm16 = z := Option.some.inj h; exact ⟨(hw _ (List.mem_of_getElem? (i := 158) rfl)), (hw _ (List.mem_of_getElem? (i := 159) rfl)), (hw _ (List.mem_of_getElem? (i := 160) rfl)), (hw _ (List.mem_of_getElem? (i := 161) rfl))⟩, by intro z h; obtain rfl : cm17 = z := Option.some.inj h; exact ⟨(hw _ (List.mem_of_getElem? (i := 163) rfl)), (hw _ (List.mem_of_getElem? (i := 164) rfl)), (hw _ (List.mem_of_getElem? (i := 165) rfl)), (hw _ (List.mem_of_getElem? (i := 166) rfl))⟩, by intro z h; obtain rfl : cm18 = z := Option.some.inj h; exact ⟨(hw _ (List.mem_of_getElem? (i := 168) rfl)), (hw _ (List.mem_of_getElem? (i := 169) rfl)), (hw _ (List.mem_of_getElem? (i := 170) rfl)), (hw _ (List.mem_of_getElem? (i := 171) rfl))⟩, by intro z h; obtain rfl : cm20 = z := Option.some.inj h; exact ⟨(hw _ (List.mem_of_getElem? (i := 173) rfl)), (hw _ (List.mem_of_getElem? (i := 174) rfl)), (hw _ (List.mem_of_getElem? (i := 175) rfl)), (hw _ (List.mem_of_getElem? (i := 176) rfl))⟩, by intro z h; obtain rfl : cm34 = z := Option.some.inj h; exact ⟨(hw _ (List.mem_of_getElem? (i := 178) rfl)), (hw _ (List.mem_of_getElem? (i := 179) rfl)), (hw _ (List.mem_of_getElem? (i := 180) rfl)), (hw _ (List.mem_of_getElem? (i := 181) rfl))⟩, by intro z h; obtain rfl : cm32 = z := Option.some.inj h; exact ⟨(hw _ (List.mem_of_getElem? (i := 183) rfl)), (hw _ (List.mem_of_getElem? (i := 184) rfl)), (hw _ (List.mem_of_getElem? (i := 185) rfl)), (hw _ (List.mem_of_getElem? (i := 186) rfl))⟩, by intro z h; obtain rfl : cm35 = z := Option.some.inj h; exact ⟨(hw _ (List.mem_of_getElem? (i := 188) rfl)), (hw _ (List.mem_of_getElem? (i := 189) rfl)), (hw _ (List.mem_of_getElem? (i := 190) rfl)), (hw _ (List.mem_of_getElem? (i := 191) rfl))⟩, by intro z h; obtain rfl : cm36 = z := Option.some.inj h; exact ⟨(hw _ (List.mem_of_getElem? (i := 193) rfl)), (hw _ (List.mem_of_getElem? (i := 194) rfl)), (hw _ (List.mem_of_getElem? (i := 195) rfl)), (hw _ (List.mem_of_getElem? (i := 196) rfl))⟩, by intro z h; obtain rfl : cm37 = z := Option.some.inj h; exact ⟨(hw _ (List.mem_of_getElem? (i := 198) rfl)), (hw _ (List.mem_of_getElem? (i := 199) rfl)), (hw _ (List.mem_of_getElem? (i := 200) rfl)), (hw _ (List.mem_of_getElem? (i := 201) rfl))⟩, by intro z h; obtain rfl : cm33 = z := Option.some.inj h; exact ⟨(hw _ (List.mem_of_getElem? (i := 203) rfl)), (hw _ (List.mem_of_getElem? (i := 204) rfl)), (hw _ (List.mem_of_getElem? (i := 205) rfl)), (hw _ (List.mem_of_getElem? (i := 206) rfl))⟩, trivial⟩),
   asc_all (⟨by intro z h; obtain rfl : lm3 = z := Option.some.inj h; exact ⟨(hw _ (List.mem_of_getElem? (i := 65) rfl)), (hw _ (List.mem_of_getElem? (i := 66) rfl)), (hw _ (List.mem_of_getElem? (i := 67) rfl))⟩, by intro z h; obtain rfl : lm4 = z := Option.some.inj h; exact ⟨(hw _ (List.mem_of_getElem? (i := 150) rfl)), (hw _ (List.mem_of_getElem? (i := 151) rfl)), (hw _ (List.mem_of_getElem? (i := 67) rfl))⟩, trivial⟩),
   asc_all (trivial),
   asc_all (⟨fun h => absurd rfl h, fun _ => ⟨method_3_code, [.object "Ll1RecoverGen", .int, .boolean], (hw _ (List.mem_of_getElem? (i := 68) rfl)), chk_ok dk_l3, pk_l3, rfl⟩, fun _ => ⟨method_4_code, [.object "Ll1RecoverGen", .object "Ll1RecoverGen"], (hw _ (List.mem_of_getElem? (i := 152) rfl)), chk_ok dk_l4, pk_l4, rfl⟩, trivial⟩),
   (by first | (simp [plainName, overriddenIn]; done) | decide +kernel),
   (by decide)⟩
theorem c2_in (a1 : Int32) (a2 : Int32) (a3 : Int32) (s : St) (Q : Int32 → St → Prop) (h : ((a1 < a2) → Q a2 s) ∧ (¬ (a1 < a2) → ((a3 < a1) → Q a3 s) ∧ (¬ (a3 < a1) → Q a1 s))) : calI PP 2 14 [.ref 0, .int a1, .int a2, .int a3] s Q := by
  refine cal_of (me := cm2) (ls := [some (.ref 0), some (.int a1), some (.int a2), some (.int a3)]) rfl (Nat.le_of_ble_eq_true rfl) rfl ?_
  refine wpc_sl (n := 2) (c' := 14) (pc' := 2) (ls' := [some (.ref 0), some (.int a1), some (.int a2), some (.int a3)]) (st' := [.int a2, .int a1]) (s' := s) rfl ?_
  refine wpc_icmp (a := 7) (b := 5) rfl (by decide) rfl rfl (wpc_br (p := a1 < a2) ⟨fun hc134 => ?_, fun hc134 => ?_⟩)
  · have h135 := h.1 hc134
    refine wpc_sl (n := 1) (c' := 14) (pc' := 6) (ls' := [some (.ref 0), some (.int a1), some (.int a2), some (.int a3)]) (st' := [.int a2]) (s' := s) rfl ?_
    exact wpc_ret rfl rfl (fun q => absurd q (by decide)) rfl ⟨a2, rfl, h135⟩
  · have h136 := h.2 hc134
    refine wpc_sl (n := 2) (c' := 14) (pc' := 9) (ls' := [some (.ref 0), some (.int a1), some (.int a2), some (.int a3)]) (st' := [.int a3, .int a1]) (s' := s) rfl ?_
    refine wpc_icmp (a := 14) (b := 12) rfl (by decide) rfl rfl (wpc_br (p := a3 < a1) ⟨fun hc137 => ?_, fun hc137 => ?_⟩)
    · have h138 := h136.1 hc137
      refine wpc_sl (n := 1) (c' := 14) (pc' := 13) (ls' := [some (.ref 0), some (.int a1), some (.int a2), some (.int a3)]) (st' := [.int a3]) (s' := s) rfl ?_
      exact wpc_ret rfl rfl (fun q => absurd q (by decide)) rfl ⟨a3, rfl, h138⟩
    · have h139 := h136.2 hc137
      refine wpc_sl (n := 1) (c' := 14) (pc' := 15) (ls' := [some (.ref 0), some (.int a1), some (.int a2), some (.int a3)]) (st' := [.int a1]) (s' := s) rfl ?_
      exact wpc_ret rfl rfl (fun q => absurd q (by decide)) rfl ⟨a1, rfl, h139⟩
theorem c0_in (a1 : Int32) (a2 : Int32) (s : St) (Q : St → Prop) (h : calI PP 2 14 [.ref 0, .int a1, .int (1 : Int32), .int (8 : Int32)] s (fun v129 s128 => calI PP 2 14 [.ref 0, .int a2, .int (1 : Int32), .int (15 : Int32)] (sI s128 0 15 v129) (fun v132 s131 => Q (sI (sI (sI (sI (sI (sI (sI (sI (sI (sI s131 0 16 v132) 0 17 (0 : Int32)) 0 18 (0 : Int32)) 0 19 (0 : Int32)) 0 20 (0 : Int32)) 0 21 (0 : Int32)) 0 22 (0 : Int32)) 0 23 (0 : Int32)) 0 24 (0 : Int32)) 0 25 (0 : Int32))))) : calV PP 0 0 [.ref 0, .int a1, .int a2] s Q := by
  refine cal_of (me := cm0) (ls := [some (.ref 0), some (.int a1), some (.int a2)]) rfl (Nat.le_of_ble_eq_true rfl) rfl ?_
  refine wpc_sl (n := 49) (c' := 14) (pc' := 128) (ls' := [some (.ref 0), some (.int a1), some (.int a2)]) (st' := [.int (8 : Int32), .int (1 : Int32), .int a1, .ref 0, .ref 0]) (s' := s) rfl ?_
  refine wpc_callI (m' := 2) (me' := cm2) (as := [.int a1, .int (1 : Int32), .int (8 : Int32)]) (r := [.ref 0]) rfl rfl rfl rfl rfl ⟨by decide, (by first | decide | exact Nat.le_of_ble_eq_true rfl), (by first | decide | exact Nat.le_of_ble_eq_true rfl), rfl⟩ (calI.mono h fun v129 s128 h130 => ?_)
  refine wpc_sl (n := 6) (c' := 14) (pc' := 140) (ls' := [some (.ref 0), some (.int a1), some (.int a2)]) (st' := [.int (15 : Int32), .int (1 : Int32), .int a2, .ref 0, .ref 0]) (s' := (sI s128 0 15 v129)) rfl ?_
  refine wpc_callI (m' := 2) (me' := cm2) (as := [.int a2, .int (1 : Int32), .int (15 : Int32)]) (r := [.ref 0]) rfl rfl rfl rfl rfl ⟨by decide, (by first | decide | exact Nat.le_of_ble_eq_true rfl), (by first | decide | exact Nat.le_of_ble_eq_true rfl), rfl⟩ (calI.mono h130 fun v132 s131 h133 => ?_)
  refine wpc_sl (n := 28) (c' := 14) (pc' := 191) (ls' := [some (.ref 0), some (.int a1), some (.int a2)]) (st' := []) (s' := (sI (sI (sI (sI (sI (sI (sI (sI (sI (sI s131 0 16 v132) 0 17 (0 : Int32)) 0 18 (0 : Int32)) 0 19 (0 : Int32)) 0 20 (0 : Int32)) 0 21 (0 : Int32)) 0 22 (0 : Int32)) 0 23 (0 : Int32)) 0 24 (0 : Int32)) 0 25 (0 : Int32))) rfl ?_
  exact wpc_ret rfl rfl (fun _ => rfl) rfl ⟨rfl, h133⟩
theorem c3_in (a1 : Int32) (s : St) (Q : Int32 → St → Prop) (h : (((gI s 0 24) = (0 : Int32)) → ((a1 < (0 : Int32)) → Q (-1 : Int32) s) ∧ (¬ (a1 < (0 : Int32)) → ((a1 < (gI s 0 15)) → (((gI s 0 17) < (16 : Int32)) → inb 16 (gI s 0 17) ∧ inb 16 (gI s 0 17) ∧ Q (gI s 0 17) (sI (sI (sI s 1 (ix (gI s 0 17)) a1) 2 (ix (gI s 0 17)) (0 : Int32)) 0 17 ((gI s 0 17) + (1 : Int32)))) ∧ (¬ ((gI s 0 17) < (16 : Int32)) → Q (-1 : Int32) s)) ∧ (¬ (a1 < (gI s 0 15)) → Q (-1 : Int32) s))) ∧ (¬ ((gI s 0 24) = (0 : Int32)) → Q (-1 : Int32) s)) : calI PP 3 14 [.ref 0, .int a1] s Q := by
  refine cal_of (me := cm3) (ls := [some (.ref 0), some (.int a1), none]) rfl (Nat.le_of_ble_eq_true rfl) rfl ?_
  refine wpc_sl (n := 2) (c' := 14) (pc' := 4) (ls' := [some (.ref 0), some (.int a1), none]) (st' := [.int (gI s 0 24)]) (s' := s) rfl ?_
  refine wpc_if (a := 9) (b := 7) rfl (by decide) rfl rfl (wpc_br (p := (gI s 0 24) = (0 : Int32)) ⟨fun hc221 => ?_, fun hc221 => ?_⟩)
  · have h222 := h.1 hc221
    refine wpc_sl (n := 1) (c' := 14) (pc' := 10) (ls' := [some (.ref 0), some (.int a1), none]) (st' := [.int a1]) (s' := s) rfl ?_
    refine wpc_if (a := 21) (b := 13) rfl (by decide) rfl rfl (wpc_br (p := a1 < (0 : Int32)) ⟨fun hc224 => ?_, fun hc224 => ?_⟩)
    · have h225 := h222.1 hc224
      refine wpc_sl (n := 1) (c' := 14) (pc' := 22) (ls' := [some (.ref 0), some (.int a1), none]) (st' := [.int (-1 : Int32)]) (s' := s) rfl ?_
      exact wpc_ret rfl rfl (fun q => absurd q (by decide)) rfl ⟨(-1 : Int32), rfl, h225⟩
    · have h226 := h222.2 hc224
      refine wpc_sl (n := 3) (c' := 14) (pc' := 18) (ls' := [some (.ref 0), some (.int a1), none]) (st' := [.int (gI s 0 15), .int a1]) (s' := s) rfl ?_
      refine wpc_icmp (a := 23) (b := 21) rfl (by decide) rfl rfl (wpc_br (p := a1 < (gI s 0 15)) ⟨fun hc227 => ?_, fun hc227 => ?_⟩)
      · have h228 := h226.1 hc227
        refine wpc_sl (n := 3) (c' := 14) (pc' := 29) (ls' := [some (.ref 0), some (.int a1), none]) (st' := [.int (16 : Int32), .int (gI s 0 17)]) (s' := s) rfl ?_
        refine wpc_icmp (a := 34) (b := 32) rfl (by decide) rfl rfl (wpc_br (p := (gI s 0 17) < (16 : Int32)) ⟨fun hc230 => ?_, fun hc230 => ?_⟩)
        · have h231 := h228.1 hc230
          refine wpc_sl (n := 5) (c' := 14) (pc' := 43) (ls' := [some (.ref 0), some (.int a1), none]) (st' := [.int a1, .int (gI s 0 17), .ref 1]) (s' := s) rfl ?_
          refine wpc_staI (a := 0) (N := 16) (s' := (sI s 1 (ix (gI s 0 17)) a1)) rfl rfl (by decide) h231.1 rfl ?_
          have h233 := h231.2
          refine wpc_sl (n := 5) (c' := 14) (pc' := 53) (ls' := [some (.ref 0), some (.int a1), none]) (st' := [.int (0 : Int32), .int (gI s 0 17), .ref 2]) (s' := (sI s 1 (ix (gI s 0 17)) a1)) rfl ?_
          refine wpc_staI (a := 1) (N := 16) (s' := (sI (sI s 1 (ix (gI s 0 17)) a1) 2 (ix (gI s 0 17)) (0 : Int32))) rfl rfl (by decide) h233.1 rfl ?_
          have h234 := h233.2
          refine wpc_sl (n := 9) (c' := 14) (pc' := 67) (ls' := [some (.ref 0), some (.int a1), some (.int (gI s 0 17))]) (st' := [.int (gI s 0 17)]) (s' := (sI (sI (sI s 1 (ix (gI s 0 17)) a1) 2 (ix (gI s 0 17)) (0 : Int32)) 0 17 ((gI s 0 17) + (1 : Int32)))) rfl ?_
          exact wpc_ret rfl rfl (fun q => absurd q (by decide)) rfl ⟨(gI s 0 17), rfl, h234⟩
        · have h232 := h228.2 hc230
          refine wpc_sl (n := 1) (c' := 14) (pc' := 33) (ls' := [some (.ref 0), some (.int a1), none]) (st' := [.int (-1 : Int32)]) (s' := s) rfl ?_
          exact wpc_ret rfl rfl (fun q => absurd q (by decide)) rfl ⟨(-1 : Int32), rfl, h232⟩
      · have h229 := h226.2 hc227
        refine wpc_sl (n := 1) (c' := 14) (pc' := 22) (ls' := [some (.ref 0), some (.int a1), none]) (st' := [.int (-1 : Int32)]) (s' := s) rfl ?_
        exact wpc_ret rfl rfl (fun q => absurd q (by decide)) rfl ⟨(-1 : Int32), rfl, h229⟩
  · have h223 := h.2 hc221
    refine wpc_sl (n := 1) (c' := 14) (pc' := 8) (ls' := [some (.ref 0), some (.int a1), none]) (st' := [.int (-1 : Int32)]) (s' := s) rfl ?_
    exact wpc_ret rfl rfl (fun q => absurd q (by decide)) rfl ⟨(-1 : Int32), rfl, h223⟩
theorem c5_in (a1 : Int32) (s : St) (Q : Int32 → St → Prop) (h : ((a1 < (1 : Int32)) → wpcI PP 5 cm5 14 15 [some (.ref 0), some (.int a1)] [] s Q) ∧ (¬ (a1 < (1 : Int32)) → (((gI s 0 16) < a1) → wpcI PP 5 cm5 14 15 [some (.ref 0), some (.int a1)] [] s Q) ∧ (¬ ((gI s 0 16) < a1) → Q (1 : Int32) s))) : calI PP 5 14 [.ref 0, .int a1] s Q := by
  refine cal_of (me := cm5) (ls := [some (.ref 0), some (.int a1)]) rfl (Nat.le_of_ble_eq_true rfl) rfl ?_
  refine wpc_sl (n := 2) (c' := 14) (pc' := 2) (ls' := [some (.ref 0), some (.int a1)]) (st' := [.int (1 : Int32), .int a1]) (s' := s) rfl ?_
  refine wpc_icmp (a := 15) (b := 5) rfl (by decide) rfl rfl (wpc_br (p := a1 < (1 : Int32)) ⟨fun hc255 => ?_, fun hc255 => ?_⟩)
  · have h256 := h.1 hc255
    exact h256
  · have h257 := h.2 hc255
    refine wpc_sl (n := 3) (c' := 14) (pc' := 10) (ls' := [some (.ref 0), some (.int a1)]) (st' := [.int (gI s 0 16), .int a1]) (s' := s) rfl ?_
    refine wpc_icmp (a := 15) (b := 13) rfl (by decide) rfl rfl (wpc_br (p := (gI s 0 16) < a1) ⟨fun hc258 => ?_, fun hc258 => ?_⟩)
    · have h259 := h257.1 hc258
      exact h259
    · have h260 := h257.2 hc258
      refine wpc_sl (n := 1) (c' := 14) (pc' := 14) (ls' := [some (.ref 0), some (.int a1)]) (st' := [.int (1 : Int32)]) (s' := s) rfl ?_
      exact wpc_ret rfl rfl (fun q => absurd q (by decide)) rfl ⟨(1 : Int32), rfl, h260⟩
theorem c5_15 (x1 : Int32) (s : St) (Q : Int32 → St → Prop) (h : ((x1 < (16 : Int32)) → Q (0 : Int32) s) ∧ (¬ (x1 < (16 : Int32)) → ((x1 < ((16 : Int32) + (gI s 0 15))) → Q (1 : Int32) s) ∧ (¬ (x1 < ((16 : Int32) + (gI s 0 15))) → Q (0 : Int32) s))) : wpcI PP 5 cm5 14 15 [some (.ref 0), some (.int x1)] [] s Q := by
  refine wpc_sl (n := 2) (c' := 14) (pc' := 18) (ls' := [some (.ref 0), some (.int x1)]) (st' := [.int (16 : Int32), .int x1]) (s' := s) rfl ?_
  refine wpc_icmp (a := 36) (b := 21) rfl (by decide) rfl rfl (wpc_br (p := x1 < (16 : Int32)) ⟨fun hc261 => ?_, fun hc261 => ?_⟩)
  · have h262 := h.1 hc261
    refine wpc_sl (n := 1) (c' := 14) (pc' := 37) (ls' := [some (.ref 0), some (.int x1)]) (st' := [.int (0 : Int32)]) (s' := s) rfl ?_
    exact wpc_ret rfl rfl (fun q => absurd q (by decide)) rfl ⟨(0 : Int32), rfl, h262⟩
  · have h263 := h.2 hc261
    refine wpc_sl (n := 5) (c' := 14) (pc' := 29) (ls' := [some (.ref 0), some (.int x1)]) (st' := [.int ((16 : Int32) + (gI s 0 15)), .int x1]) (s' := s) rfl ?_
    refine wpc_icmp (a := 36) (b := 32) rfl (by decide) rfl rfl (wpc_br (p := x1 < ((16 : Int32) + (gI s 0 15))) ⟨fun hc264 => ?_, fun hc264 => ?_⟩)
    · have h265 := h263.1 hc264
      refine wpc_sl (n := 2) (c' := 14) (pc' := 37) (ls' := [some (.ref 0), some (.int x1)]) (st' := [.int (1 : Int32)]) (s' := s) rfl ?_
      exact wpc_ret rfl rfl (fun q => absurd q (by decide)) rfl ⟨(1 : Int32), rfl, h265⟩
    · have h266 := h263.2 hc264
      refine wpc_sl (n := 1) (c' := 14) (pc' := 37) (ls' := [some (.ref 0), some (.int x1)]) (st' := [.int (0 : Int32)]) (s' := s) rfl ?_
      exact wpc_ret rfl rfl (fun q => absurd q (by decide)) rfl ⟨(0 : Int32), rfl, h266⟩
theorem c4_in (a1 : Int32) (s : St) (Q : Int32 → St → Prop) (h : (((gI s 0 24) = (0 : Int32)) → (((gI s 0 17) = (0 : Int32)) → Q (0 : Int32) s) ∧ (¬ ((gI s 0 17) = (0 : Int32)) → inb 16 ((gI s 0 17) - (1 : Int32)) ∧ (((gI s 2 (ix ((gI s 0 17) - (1 : Int32)))) < (6 : Int32)) → calI PP 5 14 [.ref 0, .int a1] s (fun v246 s245 => ((v246 = (0 : Int32)) → Q (0 : Int32) s245) ∧ (¬ (v246 = (0 : Int32)) → inb 16 ((gI s 0 17) - (1 : Int32)) ∧ inb 96 ((((gI s 0 17) - (1 : Int32)) * (6 : Int32)) + (gI s245 2 (ix ((gI s 0 17) - (1 : Int32))))) ∧ inb 16 ((gI s 0 17) - (1 : Int32)) ∧ inb 16 ((gI s 0 17) - (1 : Int32)) ∧ Q (1 : Int32) (sI (sI s245 3 (ix ((((gI s 0 17) - (1 : Int32)) * (6 : Int32)) + (gI s245 2 (ix ((gI s 0 17) - (1 : Int32)))))) a1) 2 (ix ((gI s 0 17) - (1 : Int32))) ((gI s245 2 (ix ((gI s 0 17) - (1 : Int32)))) + (1 : Int32)))))) ∧ (¬ ((gI s 2 (ix ((gI s 0 17) - (1 : Int32)))) < (6 : Int32)) → Q (0 : Int32) s))) ∧ (¬ ((gI s 0 24) = (0 : Int32)) → Q (0 : Int32) s)) : calI PP 4 14 [.ref 0, .int a1] s Q := by
  refine cal_of (me := cm4) (ls := [some (.ref 0), some (.int a1), none]) rfl (Nat.le_of_ble_eq_true rfl) rfl ?_
  refine wpc_sl (n := 2) (c' := 14) (pc' := 4) (ls' := [some (.ref 0), some (.int a1), none]) (st' := [.int (gI s 0 24)]) (s' := s) rfl ?_
  refine wpc_if (a := 14) (b := 7) rfl (by decide) rfl rfl (wpc_br (p := (gI s 0 24) = (0 : Int32)) ⟨fun hc235 => ?_, fun hc235 => ?_⟩)
  · have h236 := h.1 hc235
    refine wpc_sl (n := 2) (c' := 14) (pc' := 11) (ls' := [some (.ref 0), some (.int a1), none]) (st' := [.int (gI s 0 17)]) (s' := s) rfl ?_
    refine wpc_if (a := 16) (b := 14) rfl (by decide) rfl rfl (wpc_br (p := (gI s 0 17) = (0 : Int32)) ⟨fun hc238 => ?_, fun hc238 => ?_⟩)
    · have h239 := h236.1 hc238
      refine wpc_sl (n := 1) (c' := 14) (pc' := 15) (ls' := [some (.ref 0), some (.int a1), none]) (st' := [.int (0 : Int32)]) (s' := s) rfl ?_
      exact wpc_ret rfl rfl (fun q => absurd q (by decide)) rfl ⟨(0 : Int32), rfl, h239⟩
    · have h240 := h236.2 hc238
      refine wpc_sl (n := 8) (c' := 14) (pc' := 28) (ls' := [some (.ref 0), some (.int a1), some (.int ((gI s 0 17) - (1 : Int32)))]) (st' := [.int ((gI s 0 17) - (1 : Int32)), .ref 2]) (s' := s) rfl ?_
      refine wpc_ldaI (a := 1) (N := 16) (v := (gI s 2 (ix ((gI s 0 17) - (1 : Int32))))) rfl rfl (by decide) h240.1 rfl ?_
      have h241 := h240.2
      refine wpc_sl (n := 1) (c' := 14) (pc' := 31) (ls' := [some (.ref 0), some (.int a1), some (.int ((gI s 0 17) - (1 : Int32)))]) (st' := [.int (6 : Int32), .int (gI s 2 (ix ((gI s 0 17) - (1 : Int32))))]) (s' := s) rfl ?_
      refine wpc_icmp (a := 36) (b := 34) rfl (by decide) rfl rfl (wpc_br (p := (gI s 2 (ix ((gI s 0 17) - (1 : Int32)))) < (6 : Int32)) ⟨fun hc242 => ?_, fun hc242 => ?_⟩)
      · have h243 := h241.1 hc242
        refine wpc_sl (n := 2) (c' := 14) (pc' := 38) (ls' := [some (.ref 0), some (.int a1), some (.int ((gI s 0 17) - (1 : Int32)))]) (st' := [.int a1, .ref 0]) (s' := s) rfl ?_
        refine wpc_callI (m' := 5) (me' := cm5) (as := [.int a1]) (r := []) rfl rfl rfl rfl rfl ⟨by decide, (by first | decide | exact Nat.le_of_ble_eq_true rfl), (by first | decide | exact Nat.le_of_ble_eq_true rfl), rfl⟩ (calI.mono h243 fun v246 s245 h247 => ?_)
        refine wpc_if (a := 46) (b := 44) rfl (by decide) rfl rfl (wpc_br (p := v246 = (0 : Int32)) ⟨fun hc248 => ?_, fun hc248 => ?_⟩)
        · have h249 := h247.1 hc248
          refine wpc_sl (n := 1) (c' := 14) (pc' := 45) (ls' := [some (.ref 0), some (.int a1), some (.int ((gI s 0 17) - (1 : Int32)))]) (st' := [.int (0 : Int32)]) (s' := s245) rfl ?_
          exact wpc_ret rfl rfl (fun q => absurd q (by decide)) rfl ⟨(0 : Int32), rfl, h249⟩
        · have h250 := h247.2 hc248
          refine wpc_sl (n := 8) (c' := 14) (pc' := 59) (ls' := [some (.ref 0), some (.int a1), some (.int ((gI s 0 17) - (1 : Int32)))]) (st' := [.int ((gI s 0 17) - (1 : Int32)), .ref 2, .int (((gI s 0 17) - (1 : Int32)) * (6 : Int32)), .ref 3]) (s' := s245) rfl ?_
          refine wpc_ldaI (a := 1) (N := 16) (v := (gI s245 2 (ix ((gI s 0 17) - (1 : Int32))))) rfl rfl (by decide) h250.1 rfl ?_
          have h251 := h250.2
          refine wpc_sl (n := 2) (c' := 14) (pc' := 62) (ls' := [some (.ref 0), some (.int a1), some (.int ((gI s 0 17) - (1 : Int32)))]) (st' := [.int a1, .int ((((gI s 0 17) - (1 : Int32)) * (6 : Int32)) + (gI s245 2 (ix ((gI s 0 17) - (1 : Int32))))), .ref 3]) (s' := s245) rfl ?_
          refine wpc_staI (a := 2) (N := 96) (s' := (sI s245 3 (ix ((((gI s 0 17) - (1 : Int32)) * (6 : Int32)) + (gI s245 2 (ix ((gI s 0 17) - (1 : Int32)))))) a1)) rfl rfl (by decide) h251.1 rfl ?_
          have h252 := h251.2
          refine wpc_sl (n := 6) (c' := 14) (pc' := 73) (ls' := [some (.ref 0), some (.int a1), some (.int ((gI s 0 17) - (1 : Int32)))]) (st' := [.int ((gI s 0 17) - (1 : Int32)), .ref 2, .int ((gI s 0 17) - (1 : Int32)), .ref 2]) (s' := (sI s245 3 (ix ((((gI s 0 17) - (1 : Int32)) * (6 : Int32)) + (gI s245 2 (ix ((gI s 0 17) - (1 : Int32)))))) a1)) rfl ?_
          refine wpc_ldaI (a := 1) (N := 16) (v := (gI s245 2 (ix ((gI s 0 17) - (1 : Int32))))) rfl rfl (by decide) h252.1 rfl ?_
          have h253 := h252.2
          refine wpc_sl (n := 2) (c' := 14) (pc' := 76) (ls' := [some (.ref 0), some (.int a1), some (.int ((gI s 0 17) - (1 : Int32)))]) (st' := [.int ((gI s245 2 (ix ((gI s 0 17) - (1 : Int32)))) + (1 : Int32)), .int ((gI s 0 17) - (1 : Int32)), .ref 2]) (s' := (sI s245 3 (ix ((((gI s 0 17) - (1 : Int32)) * (6 : Int32)) + (gI s245 2 (ix ((gI s 0 17) - (1 : Int32)))))) a1)) rfl ?_
          refine wpc_staI (a := 1) (N := 16) (s' := (sI (sI s245 3 (ix ((((gI s 0 17) - (1 : Int32)) * (6 : Int32)) + (gI s245 2 (ix ((gI s 0 17) - (1 : Int32)))))) a1) 2 (ix ((gI s 0 17) - (1 : Int32))) ((gI s245 2 (ix ((gI s 0 17) - (1 : Int32)))) + (1 : Int32)))) rfl rfl (by decide) h253.1 rfl ?_
          have h254 := h253.2
          refine wpc_sl (n := 1) (c' := 14) (pc' := 78) (ls' := [some (.ref 0), some (.int a1), some (.int ((gI s 0 17) - (1 : Int32)))]) (st' := [.int (1 : Int32)]) (s' := (sI (sI s245 3 (ix ((((gI s 0 17) - (1 : Int32)) * (6 : Int32)) + (gI s245 2 (ix ((gI s 0 17) - (1 : Int32)))))) a1) 2 (ix ((gI s 0 17) - (1 : Int32))) ((gI s245 2 (ix ((gI s 0 17) - (1 : Int32)))) + (1 : Int32)))) rfl ?_
          exact wpc_ret rfl rfl (fun q => absurd q (by decide)) rfl ⟨(1 : Int32), rfl, h254⟩
      · have h244 := h241.2 hc242
        refine wpc_sl (n := 1) (c' := 14) (pc' := 35) (ls' := [some (.ref 0), some (.int a1), some (.int ((gI s 0 17) - (1 : Int32)))]) (st' := [.int (0 : Int32)]) (s' := s) rfl ?_
        exact wpc_ret rfl rfl (fun q => absurd q (by decide)) rfl ⟨(0 : Int32), rfl, h244⟩
  · have h237 := h.2 hc235
    refine wpc_sl (n := 1) (c' := 14) (pc' := 15) (ls' := [some (.ref 0), some (.int a1), none]) (st' := [.int (0 : Int32)]) (s' := s) rfl ?_
    exact wpc_ret rfl rfl (fun q => absurd q (by decide)) rfl ⟨(0 : Int32), rfl, h237⟩
theorem c23_in  (s : St) (Q : Int32 → St → Prop) (h : (((gI s 0 23) < (0 : Int32)) → Q (0 : Int32) s) ∧ (¬ ((gI s 0 23) < (0 : Int32)) → (((gI s 0 23) < (gI s 0 18)) → (((gI s 0 23) < (32 : Int32)) → inb 32 (gI s 0 23) ∧ Q (gI s 9 (ix (gI s 0 23))) s) ∧ (¬ ((gI s 0 23) < (32 : Int32)) → Q (0 : Int32) s)) ∧ (¬ ((gI s 0 23) < (gI s 0 18)) → Q (0 : Int32) s))) : calI PP 23 14 [.ref 0] s Q := by
  refine cal_of (me := cm23) (ls := [some (.ref 0)]) rfl (Nat.le_of_ble_eq_true rfl) rfl ?_
  refine wpc_sl (n := 2) (c' := 14) (pc' := 4) (ls' := [some (.ref 0)]) (st' := [.int (gI s 0 23)]) (s' := s) rfl ?_
  refine wpc_if (a := 37) (b := 7) rfl (by decide) rfl rfl (wpc_br (p := (gI s 0 23) < (0 : Int32)) ⟨fun hc313 => ?_, fun hc313 => ?_⟩)
  · have h314 := h.1 hc313
    refine wpc_sl (n := 1) (c' := 14) (pc' := 38) (ls' := [some (.ref 0)]) (st' := [.int (0 : Int32)]) (s' := s) rfl ?_
    exact wpc_ret rfl rfl (fun q => absurd q (by decide)) rfl ⟨(0 : Int32), rfl, h314⟩
  · have h315 := h.2 hc313
    refine wpc_sl (n := 4) (c' := 14) (pc' := 15) (ls' := [some (.ref 0)]) (st' := [.int (gI s 0 18), .int (gI s 0 23)]) (s' := s) rfl ?_
    refine wpc_icmp (a := 37) (b := 18) rfl (by decide) rfl rfl (wpc_br (p := (gI s 0 23) < (gI s 0 18)) ⟨fun hc316 => ?_, fun hc316 => ?_⟩)
    · have h317 := h315.1 hc316
      refine wpc_sl (n := 3) (c' := 14) (pc' := 24) (ls' := [some (.ref 0)]) (st' := [.int (32 : Int32), .int (gI s 0 23)]) (s' := s) rfl ?_
      refine wpc_icmp (a := 37) (b := 27) rfl (by decide) rfl rfl (wpc_br (p := (gI s 0 23) < (32 : Int32)) ⟨fun hc319 => ?_, fun hc319 => ?_⟩)
      · have h320 := h317.1 hc319
        refine wpc_sl (n := 4) (c' := 14) (pc' := 35) (ls' := [some (.ref 0)]) (st' := [.int (gI s 0 23), .ref 9]) (s' := s) rfl ?_
        refine wpc_ldaI (a := 8) (N := 32) (v := (gI s 9 (ix (gI s 0 23)))) rfl rfl (by decide) h320.1 rfl ?_
        have h322 := h320.2
        exact wpc_ret rfl rfl (fun q => absurd q (by decide)) rfl ⟨(gI s 9 (ix (gI s 0 23))), rfl, h322⟩
      · have h321 := h317.2 hc319
        refine wpc_sl (n := 1) (c' := 14) (pc' := 38) (ls' := [some (.ref 0)]) (st' := [.int (0 : Int32)]) (s' := s) rfl ?_
        exact wpc_ret rfl rfl (fun q => absurd q (by decide)) rfl ⟨(0 : Int32), rfl, h321⟩
    · have h318 := h315.2 hc316
      refine wpc_sl (n := 1) (c' := 14) (pc' := 38) (ls' := [some (.ref 0)]) (st' := [.int (0 : Int32)]) (s' := s) rfl ?_
      exact wpc_ret rfl rfl (fun q => absurd q (by decide)) rfl ⟨(0 : Int32), rfl, h318⟩
theorem c24_in (a1 : Int32) (a2 : Int32) (a3 : Int32) (s : St) (Q : St → Prop) (h : (((gI s 0 21) < (0 : Int32)) → wpcV PP 24 cm24 14 36 [some (.ref 0), none, none, none] [] s Q) ∧ (¬ ((gI s 0 21) < (0 : Int32)) → (((gI s 0 21) < (64 : Int32)) → inb 64 (gI s 0 21) ∧ wpcV PP 24 cm24 14 36 [some (.ref 0), none, none, none] [] (sI s 14 (ix (gI s 0 21)) (((a1 <<< ((16 : Int32) &&& 31)) ||| (a2 <<< ((8 : Int32) &&& 31))) ||| a3)) Q) ∧ (¬ ((gI s 0 21) < (64 : Int32)) → wpcV PP 24 cm24 14 36 [some (.ref 0), none, none, none] [] s Q))) : calV PP 24 14 [.ref 0, .int a1, .int a2, .int a3] s Q := by
  refine cal_of (me := cm24) (ls := [some (.ref 0), some (.int a1), some (.int a2), some (.int a3)]) rfl (Nat.le_of_ble_eq_true rfl) rfl ?_
  refine wpc_sl (n := 2) (c' := 14) (pc' := 4) (ls' := [some (.ref 0), some (.int a1), some (.int a2), some (.int a3)]) (st' := [.int (gI s 0 21)]) (s' := s) rfl ?_
  refine wpc_if (a := 36) (b := 7) rfl (by decide) rfl rfl (wpc_br (p := (gI s 0 21) < (0 : Int32)) ⟨fun hc323 => ?_, fun hc323 => ?_⟩)
  · have h324 := h.1 hc323
    exact wpc_lle (ls := [some (.ref 0), none, none, none]) ⟨rfl, trivial⟩ h324
  · have h325 := h.2 hc323
    refine wpc_sl (n := 3) (c' := 14) (pc' := 13) (ls' := [some (.ref 0), some (.int a1), some (.int a2), some (.int a3)]) (st' := [.int (64 : Int32), .int (gI s 0 21)]) (s' := s) rfl ?_
    refine wpc_icmp (a := 36) (b := 16) rfl (by decide) rfl rfl (wpc_br (p := (gI s 0 21) < (64 : Int32)) ⟨fun hc326 => ?_, fun hc326 => ?_⟩)
    · have h327 := h325.1 hc326
      refine wpc_sl (n := 13) (c' := 14) (pc' := 35) (ls' := [some (.ref 0), some (.int a1), some (.int a2), some (.int a3)]) (st' := [.int (((a1 <<< ((16 : Int32) &&& 31)) ||| (a2 <<< ((8 : Int32) &&& 31))) ||| a3), .int (gI s 0 21), .ref 14]) (s' := s) rfl ?_
      refine wpc_staI (a := 13) (N := 64) (s' := (sI s 14 (ix (gI s 0 21)) (((a1 <<< ((16 : Int32) &&& 31)) ||| (a2 <<< ((8 : Int32) &&& 31))) ||| a3))) rfl rfl (by decide) h327.1 rfl ?_
      have h329 := h327.2
      exact wpc_lle (ls := [some (.ref 0), none, none, none]) ⟨rfl, trivial⟩ h329
    · have h328 := h325.2 hc326
      exact wpc_lle (ls := [some (.ref 0), none, none, none]) ⟨rfl, trivial⟩ h328
theorem c24_36  (s : St) (Q : St → Prop) (h : Q (sI s 0 21 ((gI s 0 21) + (1 : Int32)))) : wpcV PP 24 cm24 14 36 [some (.ref 0), none, none, none] [] s Q := by
  refine wpc_sl (n := 6) (c' := 14) (pc' := 46) (ls' := [some (.ref 0), none, none, none]) (st' := []) (s' := (sI s 0 21 ((gI s 0 21) + (1 : Int32)))) rfl ?_
  exact wpc_ret rfl rfl (fun q => absurd q (by decide)) rfl ⟨rfl, h⟩
theorem c26_in (a1 : Int32) (a2 : Int32) (s : St) (Q : St → Prop) (h : calI PP 23 14 [.ref 0] s (fun v304 s303 => ((a2 = v304) → inb 256 a1 ∧ wpcV PP 26 cm26 14 43 [some (.ref 0), none, none, none] [] (sI (sI s303 12 (ix a1) (gI s303 0 23)) 0 23 ((gI s303 0 23) + (1 : Int32))) Q) ∧ (¬ (a2 = v304) → calV PP 24 14 [.ref 0, .int (1 : Int32), .int (gI s303 0 23), .int a2] s303 (fun s310 => wpcV PP 26 cm26 14 43 [some (.ref 0), none, none, none] [] s310 Q)))) : calV PP 26 14 [.ref 0, .int a1, .int a2] s Q := by
  refine cal_of (me := cm26) (ls := [some (.ref 0), some (.int a1), some (.int a2), none]) rfl (Nat.le_of_ble_eq_true rfl) rfl ?_
  refine wpc_sl (n := 1) (c' := 14) (pc' := 1) (ls' := [some (.ref 0), some (.int a1), some (.int a2), none]) (st' := [.ref 0]) (s' := s) rfl ?_
  refine wpc_callI (m' := 23) (me' := cm23) (as := []) (r := []) rfl rfl rfl rfl rfl ⟨by decide, (by first | decide | exact Nat.le_of_ble_eq_true rfl), (by first | decide | exact Nat.le_of_ble_eq_true rfl), rfl⟩ (calI.mono h fun v304 s303 h305 => ?_)
  refine wpc_sl (n := 3) (c' := 14) (pc' := 7) (ls' := [some (.ref 0), some (.int a1), some (.int a2), some (.int v304)]) (st' := [.int v304, .int a2]) (s' := s303) rfl ?_
  refine wpc_icmp (a := 33) (b := 10) rfl (by decide) rfl rfl (wpc_br (p := a2 = v304) ⟨fun hc306 => ?_, fun hc306 => ?_⟩)
  · have h307 := h305.1 hc306
    refine wpc_sl (n := 5) (c' := 14) (pc' := 19) (ls' := [some (.ref 0), some (.int a1), some (.int a2), some (.int v304)]) (st' := [.int (gI s303 0 23), .int a1, .ref 12]) (s' := s303) rfl ?_
    refine wpc_staI (a := 11) (N := 256) (s' := (sI s303 12 (ix a1) (gI s303 0 23))) rfl rfl (by decide) h307.1 rfl ?_
    have h309 := h307.2
    refine wpc_sl (n := 7) (c' := 14) (pc' := 43) (ls' := [some (.ref 0), some (.int a1), some (.int a2), some (.int v304)]) (st' := []) (s' := (sI (sI s303 12 (ix a1) (gI s303 0 23)) 0 23 ((gI s303 0 23) + (1 : Int32)))) rfl ?_
    exact wpc_lle (ls := [some (.ref 0), none, none, none]) ⟨rfl, trivial⟩ h309
  · have h308 := h305.2 hc306
    refine wpc_sl (n := 5) (c' := 14) (pc' := 40) (ls' := [some (.ref 0), some (.int a1), some (.int a2), some (.int v304)]) (st' := [.int a2, .int (gI s303 0 23), .int (1 : Int32), .ref 0]) (s' := s303) rfl ?_
    refine wpc_callV (m' := 24) (me' := cm24) (as := [.int (1 : Int32), .int (gI s303 0 23), .int a2]) (r := []) rfl rfl rfl rfl rfl ⟨by decide, (by first | decide | exact Nat.le_of_ble_eq_true rfl), (by first | decide | exact Nat.le_of_ble_eq_true rfl), rfl⟩ (calV.mono h308 fun s310 h312 => ?_)
    exact wpc_lle (ls := [some (.ref 0), none, none, none]) ⟨rfl, trivial⟩ h312
theorem c26_43  (s : St) (Q : St → Prop) (h : Q (sI s 0 22 ((gI s 0 22) - (1 : Int32)))) : wpcV PP 26 cm26 14 43 [some (.ref 0), none, none, none] [] s Q := by
  refine wpc_sl (n := 6) (c' := 14) (pc' := 53) (ls' := [some (.ref 0), none, none, none]) (st' := []) (s' := (sI s 0 22 ((gI s 0 22) - (1 : Int32)))) rfl ?_
  exact wpc_ret rfl rfl (fun q => absurd q (by decide)) rfl ⟨rfl, h⟩
theorem c30_in (a1 : Int32) (s : St) (Q : Int32 → St → Prop) (h : inb 8 a1 ∧ inb 8 a1 ∧ wpcI PP 30 cm30 14 18 [some (.ref 0), none, some (.int (((gI s 5 (ix a1)) ||| (gI s 6 (ix a1))) ||| (1 : Int32))), some (.int (0 : Int32)), none] [] s Q) : calI PP 30 14 [.ref 0, .int a1] s Q := by
  refine cal_of (me := cm30) (ls := [some (.ref 0), some (.int a1), none, none, none]) rfl (Nat.le_of_ble_eq_true rfl) rfl ?_
  refine wpc_sl (n := 3) (c' := 14) (pc' := 5) (ls' := [some (.ref 0), some (.int a1), none, none, none]) (st' := [.int a1, .ref 5]) (s' := s) rfl ?_
  refine wpc_ldaI (a := 4) (N := 8) (v := (gI s 5 (ix a1))) rfl rfl (by decide) h.1 rfl ?_
  have h368 := h.2
  refine wpc_sl (n := 3) (c' := 14) (pc' := 11) (ls' := [some (.ref 0), some (.int a1), none, none, none]) (st' := [.int a1, .ref 6, .int (gI s 5 (ix a1))]) (s' := s) rfl ?_
  refine wpc_ldaI (a := 5) (N := 8) (v := (gI s 6 (ix a1))) rfl rfl (by decide) h368.1 rfl ?_
  have h369 := h368.2
  refine wpc_sl (n := 6) (c' := 14) (pc' := 18) (ls' := [some (.ref 0), some (.int a1), some (.int (((gI s 5 (ix a1)) ||| (gI s 6 (ix a1))) ||| (1 : Int32))), some (.int (0 : Int32)), none]) (st' := []) (s' := s) rfl ?_
  exact wpc_lle (ls := [some (.ref 0), none, some (.int (((gI s 5 (ix a1)) ||| (gI s 6 (ix a1))) ||| (1 : Int32))), some (.int (0 : Int32)), none]) ⟨rfl, rfl, rfl, trivial⟩ h369
theorem c30_18 (x2 : Int32) (x3 : Int32) (s : St) (Q : Int32 → St → Prop) (h : ((x3 < ((gI s 0 22) - (1 : Int32))) → ((x3 < (256 : Int32)) → inb 256 x3 ∧ inb 256 (gI s 13 (ix x3)) ∧ (((gI s 10 (ix (gI s 13 (ix x3)))) < (16 : Int32)) → wpcI PP 30 cm30 14 78 [some (.ref 0), none, some (.int (x2 ||| ((1 : Int32) <<< ((gI s 10 (ix (gI s 13 (ix x3)))) &&& 31)))), some (.int x3), none] [] s Q) ∧ (¬ ((gI s 10 (ix (gI s 13 (ix x3)))) < (16 : Int32)) → inb 8 ((gI s 10 (ix (gI s 13 (ix x3)))) - (16 : Int32)) ∧ wpcI PP 30 cm30 14 78 [some (.ref 0), none, some (.int (x2 ||| (gI s 5 (ix ((gI s 10 (ix (gI s 13 (ix x3)))) - (16 : Int32)))))), some (.int x3), none] [] s Q)) ∧ (¬ (x3 < (256 : Int32)) → Q x2 s)) ∧ (¬ (x3 < ((gI s 0 22) - (1 : Int32))) → Q x2 s)) : wpcI PP 30 cm30 14 18 [some (.ref 0), none, some (.int x2), some (.int x3), none] [] s Q := by
  refine wpc_sl (n := 5) (c' := 14) (pc' := 25) (ls' := [some (.ref 0), none, some (.int x2), some (.int x3), none]) (st' := [.int ((gI s 0 22) - (1 : Int32)), .int x3]) (s' := s) rfl ?_
  refine wpc_icmp (a := 84) (b := 28) rfl (by decide) rfl rfl (wpc_br (p := x3 < ((gI s 0 22) - (1 : Int32))) ⟨fun hc370 => ?_, fun hc370 => ?_⟩)
  · have h371 := h.1 hc370
    refine wpc_sl (n := 2) (c' := 14) (pc' := 32) (ls' := [some (.ref 0), none, some (.int x2), some (.int x3), none]) (st' := [.int (256 : Int32), .int x3]) (s' := s) rfl ?_
    refine wpc_icmp (a := 84) (b := 35) rfl (by decide) rfl rfl (wpc_br (p := x3 < (256 : Int32)) ⟨fun hc373 => ?_, fun hc373 => ?_⟩)
    · have h374 := h371.1 hc373
      refine wpc_sl (n := 5) (c' := 14) (pc' := 44) (ls' := [some (.ref 0), none, some (.int x2), some (.int x3), none]) (st' := [.int x3, .ref 13, .ref 10]) (s' := s) rfl ?_
      refine wpc_ldaI (a := 12) (N := 256) (v := (gI s 13 (ix x3))) rfl rfl (by decide) h374.1 rfl ?_
      have h376 := h374.2
      refine wpc_ldaI (a := 9) (N := 256) (v := (gI s 10 (ix (gI s 13 (ix x3))))) rfl rfl (by decide) h376.1 rfl ?_
      have h377 := h376.2
      refine wpc_sl (n := 3) (c' := 14) (pc' := 52) (ls' := [some (.ref 0), none, some (.int x2), some (.int x3), some (.int (gI s 10 (ix (gI s 13 (ix x3)))))]) (st' := [.int (16 : Int32), .int (gI s 10 (ix (gI s 13 (ix x3))))]) (s' := s) rfl ?_
      refine wpc_icmp (a := 65) (b := 55) rfl (by decide) rfl rfl (wpc_br (p := (gI s 10 (ix (gI s 13 (ix x3)))) < (16 : Int32)) ⟨fun hc378 => ?_, fun hc378 => ?_⟩)
      · have h379 := h377.1 hc378
        refine wpc_sl (n := 7) (c' := 14) (pc' := 78) (ls' := [some (.ref 0), none, some (.int (x2 ||| ((1 : Int32) <<< ((gI s 10 (ix (gI s 13 (ix x3)))) &&& 31)))), some (.int x3), some (.int (gI s 10 (ix (gI s 13 (ix x3)))))]) (st' := []) (s' := s) rfl ?_
        exact wpc_lle (ls := [some (.ref 0), none, some (.int (x2 ||| ((1 : Int32) <<< ((gI s 10 (ix (gI s 13 (ix x3)))) &&& 31)))), some (.int x3), none]) ⟨rfl, rfl, rfl, trivial⟩ h379
      · have h380 := h377.2 hc378
        refine wpc_sl (n := 6) (c' := 14) (pc' := 75) (ls' := [some (.ref 0), none, some (.int x2), some (.int x3), some (.int (gI s 10 (ix (gI s 13 (ix x3)))))]) (st' := [.int ((gI s 10 (ix (gI s 13 (ix x3)))) - (16 : Int32)), .ref 5, .int x2]) (s' := s) rfl ?_
        refine wpc_ldaI (a := 4) (N := 8) (v := (gI s 5 (ix ((gI s 10 (ix (gI s 13 (ix x3)))) - (16 : Int32))))) rfl rfl (by decide) h380.1 rfl ?_
        have h381 := h380.2
        refine wpc_sl (n := 2) (c' := 14) (pc' := 78) (ls' := [some (.ref 0), none, some (.int (x2 ||| (gI s 5 (ix ((gI s 10 (ix (gI s 13 (ix x3)))) - (16 : Int32)))))), some (.int x3), some (.int (gI s 10 (ix (gI s 13 (ix x3)))))]) (st' := []) (s' := s) rfl ?_
        exact wpc_lle (ls := [some (.ref 0), none, some (.int (x2 ||| (gI s 5 (ix ((gI s 10 (ix (gI s 13 (ix x3)))) - (16 : Int32)))))), some (.int x3), none]) ⟨rfl, rfl, rfl, trivial⟩ h381
    · have h375 := h371.2 hc373
      refine wpc_sl (n := 1) (c' := 14) (pc' := 85) (ls' := [some (.ref 0), none, some (.int x2), some (.int x3), none]) (st' := [.int x2]) (s' := s) rfl ?_
      exact wpc_ret rfl rfl (fun q => absurd q (by decide)) rfl ⟨x2, rfl, h375⟩
  · have h372 := h.2 hc370
    refine wpc_sl (n := 1) (c' := 14) (pc' := 85) (ls' := [some (.ref 0), none, some (.int x2), some (.int x3), none]) (st' := [.int x2]) (s' := s) rfl ?_
    exact wpc_ret rfl rfl (fun q => absurd q (by decide)) rfl ⟨x2, rfl, h372⟩
theorem c30_78 (x2 : Int32) (x3 : Int32) (s : St) (Q : Int32 → St → Prop) (h : wpcI PP 30 cm30 14 18 [some (.ref 0), none, some (.int x2), some (.int (x3 + (1 : Int32))), none] [] s Q) : wpcI PP 30 cm30 14 78 [some (.ref 0), none, some (.int x2), some (.int x3), none] [] s Q := by
  refine wpc_sl (n := 2) (c' := 14) (pc' := 18) (ls' := [some (.ref 0), none, some (.int x2), some (.int (x3 + (1 : Int32))), none]) (st' := []) (s' := s) rfl ?_
  exact h
theorem c31_in (a1 : Int32) (s : St) (Q : St → Prop) (h : calI PP 30 14 [.ref 0, .int a1] s (fun v344 s343 => wpcV PP 31 cm31 14 8 [some (.ref 0), some (.int a1), some (.int v344), some (.int (0 : Int32)), none] [] s343 Q)) : calV PP 31 14 [.ref 0, .int a1] s Q := by
  refine cal_of (me := cm31) (ls := [some (.ref 0), some (.int a1), none, none, none]) rfl (Nat.le_of_ble_eq_true rfl) rfl ?_
  refine wpc_sl (n := 2) (c' := 14) (pc' := 2) (ls' := [some (.ref 0), some (.int a1), none, none, none]) (st' := [.int a1, .ref 0]) (s' := s) rfl ?_
  refine wpc_callI (m' := 30) (me' := cm30) (as := [.int a1]) (r := []) rfl rfl rfl rfl rfl ⟨by decide, (by first | decide | exact Nat.le_of_ble_eq_true rfl), (by first | decide | exact Nat.le_of_ble_eq_true rfl), rfl⟩ (calI.mono h fun v344 s343 h345 => ?_)
  refine wpc_sl (n := 3) (c' := 14) (pc' := 8) (ls' := [some (.ref 0), some (.int a1), some (.int v344), some (.int (0 : Int32)), none]) (st' := []) (s' := s343) rfl ?_
  exact h345
theorem c31_8 (x1 : Int32) (x2 : Int32) (x3 : Int32) (s : St) (Q : St → Prop) (h : (((32 : Int32) < x3) → wpcV PP 31 cm31 14 59 [some (.ref 0), some (.int x1), none, none, none] [] s Q) ∧ (¬ ((32 : Int32) < x3) → calI PP 23 14 [.ref 0] s (fun v350 s349 => ((((x2 >>> (v350 &&& 31)) &&& (1 : Int32)) = (0 : Int32)) → calV PP 24 14 [.ref 0, .int (2 : Int32), .int (gI s349 0 23), .int v350] s349 (fun s355 => wpcV PP 31 cm31 14 8 [some (.ref 0), some (.int x1), some (.int x2), some (.int (x3 + (1 : Int32))), none] [] (sI s355 0 23 ((gI s355 0 23) + (1 : Int32))) Q)) ∧ (¬ (((x2 >>> (v350 &&& 31)) &&& (1 : Int32)) = (0 : Int32)) → wpcV PP 31 cm31 14 59 [some (.ref 0), some (.int x1), none, none, none] [] s349 Q)))) : wpcV PP 31 cm31 14 8 [some (.ref 0), some (.int x1), some (.int x2), some (.int x3), none] [] s Q := by
  refine wpc_sl (n := 2) (c' := 14) (pc' := 11) (ls' := [some (.ref 0), some (.int x1), some (.int x2), some (.int x3), none]) (st' := [.int (32 : Int32), .int x3]) (s' := s) rfl ?_
  refine wpc_icmp (a := 59) (b := 14) rfl (by decide) rfl rfl (wpc_br (p := (32 : Int32) < x3) ⟨fun hc346 => ?_, fun hc346 => ?_⟩)
  · have h347 := h.1 hc346
    exact wpc_lle (ls := [some (.ref 0), some (.int x1), none, none, none]) ⟨rfl, rfl, trivial⟩ h347
  · have h348 := h.2 hc346
    refine wpc_sl (n := 1) (c' := 14) (pc' := 15) (ls' := [some (.ref 0), some (.int x1), some (.int x2), some (.int x3), none]) (st' := [.ref 0]) (s' := s) rfl ?_
    refine wpc_callI (m' := 23) (me' := cm23) (as := []) (r := []) rfl rfl rfl rfl rfl ⟨by decide, (by first | decide | exact Nat.le_of_ble_eq_true rfl), (by first | decide | exact Nat.le_of_ble_eq_true rfl), rfl⟩ (calI.mono h348 fun v350 s349 h351 => ?_)
    refine wpc_sl (n := 6) (c' := 14) (pc' := 26) (ls' := [some (.ref 0), some (.int x1), some (.int x2), some (.int x3), some (.int v350)]) (st' := [.int ((x2 >>> (v350 &&& 31)) &&& (1 : Int32))]) (s' := s349) rfl ?_
    refine wpc_if (a := 32) (b := 29) rfl (by decide) rfl rfl (wpc_br (p := ((x2 >>> (v350 &&& 31)) &&& (1 : Int32)) = (0 : Int32)) ⟨fun hc352 => ?_, fun hc352 => ?_⟩)
    · have h353 := h351.1 hc352
      refine wpc_sl (n := 5) (c' := 14) (pc' := 40) (ls' := [some (.ref 0), some (.int x1), some (.int x2), some (.int x3), some (.int v350)]) (st' := [.int v350, .int (gI s349 0 23), .int (2 : Int32), .ref 0]) (s' := s349) rfl ?_
      refine wpc_callV (m' := 24) (me' := cm24) (as := [.int (2 : Int32), .int (gI s349 0 23), .int v350]) (r := []) rfl rfl rfl rfl rfl ⟨by decide, (by first | decide | exact Nat.le_of_ble_eq_true rfl), (by first | decide | exact Nat.le_of_ble_eq_true rfl), rfl⟩ (calV.mono h353 fun s355 h357 => ?_)
      refine wpc_sl (n := 8) (c' := 14) (pc' := 8) (ls' := [some (.ref 0), some (.int x1), some (.int x2), some (.int (x3 + (1 : Int32))), some (.int v350)]) (st' := []) (s' := (sI s355 0 23 ((gI s355 0 23) + (1 : Int32)))) rfl ?_
      exact wpc_lle (ls := [some (.ref 0), some (.int x1), some (.int x2), some (.int (x3 + (1 : Int32))), none]) ⟨rfl, rfl, rfl, rfl, trivial⟩ h357
    · have h354 := h351.2 hc352
      refine wpc_sl (n := 1) (c' := 14) (pc' := 59) (ls' := [some (.ref 0), some (.int x1), some (.int x2), some (.int x3), some (.int v350)]) (st' := []) (s' := s349) rfl ?_
      exact wpc_lle (ls := [some (.ref 0), some (.int x1), none, none, none]) ⟨rfl, rfl, trivial⟩ h354
theorem c31_59 (x1 : Int32) (s : St) (Q : St → Prop) (h : calI PP 23 14 [.ref 0] s (fun v359 s358 => inb 128 ((x1 * (16 : Int32)) + v359) ∧ (((gI s358 7 (ix ((x1 * (16 : Int32)) + v359))) < (0 : Int32)) → calV PP 24 14 [.ref 0, .int (3 : Int32), .int (gI s358 0 23), .int ((16 : Int32) + x1)] s358 (fun s365 => Q (sI s365 0 22 ((gI s365 0 22) - (1 : Int32))))) ∧ (¬ ((gI s358 7 (ix ((x1 * (16 : Int32)) + v359))) < (0 : Int32)) → Q s358))) : wpcV PP 31 cm31 14 59 [some (.ref 0), some (.int x1), none, none, none] [] s Q := by
  refine wpc_sl (n := 1) (c' := 14) (pc' := 60) (ls' := [some (.ref 0), some (.int x1), none, none, none]) (st' := [.ref 0]) (s' := s) rfl ?_
  refine wpc_callI (m' := 23) (me' := cm23) (as := []) (r := []) rfl rfl rfl rfl rfl ⟨by decide, (by first | decide | exact Nat.le_of_ble_eq_true rfl), (by first | decide | exact Nat.le_of_ble_eq_true rfl), rfl⟩ (calI.mono h fun v359 s358 h360 => ?_)
  refine wpc_sl (n := 8) (c' := 14) (pc' := 74) (ls' := [some (.ref 0), some (.int x1), none, some (.int v359), none]) (st' := [.int ((x1 * (16 : Int32)) + v359), .ref 7]) (s' := s358) rfl ?_
  refine wpc_ldaI (a := 6) (N := 128) (v := (gI s358 7 (ix ((x1 * (16 : Int32)) + v359)))) rfl rfl (by decide) h360.1 rfl ?_
  have h361 := h360.2
  refine wpc_if (a := 79) (b := 78) rfl (by decide) rfl rfl (wpc_br (p := (gI s358 7 (ix ((x1 * (16 : Int32)) + v359))) < (0 : Int32)) ⟨fun hc362 => ?_, fun hc362 => ?_⟩)
  · have h363 := h361.1 hc362
    refine wpc_sl (n := 7) (c' := 14) (pc' := 89) (ls' := [some (.ref 0), some (.int x1), none, some (.int v359), none]) (st' := [.int ((16 : Int32) + x1), .int (gI s358 0 23), .int (3 : Int32), .ref 0]) (s' := s358) rfl ?_
    refine wpc_callV (m' := 24) (me' := cm24) (as := [.int (3 : Int32), .int (gI s358 0 23), .int ((16 : Int32) + x1)]) (r := []) rfl rfl rfl rfl rfl ⟨by decide, (by first | decide | exact Nat.le_of_ble_eq_true rfl), (by first | decide | exact Nat.le_of_ble_eq_true rfl), rfl⟩ (calV.mono h363 fun s365 h367 => ?_)
    refine wpc_sl (n := 6) (c' := 14) (pc' := 102) (ls' := [some (.ref 0), some (.int x1), none, some (.int v359), none]) (st' := []) (s' := (sI s365 0 22 ((gI s365 0 22) - (1 : Int32)))) rfl ?_
    exact wpc_ret rfl rfl (fun q => absurd q (by decide)) rfl ⟨rfl, h367⟩
  · have h364 := h361.2 hc362
    exact wpc_ret rfl rfl (fun q => absurd q (by decide)) rfl ⟨rfl, h364⟩
theorem c29_in (a1 : Int32) (s : St) (Q : St → Prop) (h : (((gI s 0 22) < (0 : Int32)) → Q s) ∧ (¬ ((gI s 0 22) < (0 : Int32)) → (((gI s 0 22) < (256 : Int32)) → inb 256 (gI s 0 22) ∧ Q (sI (sI s 13 (ix (gI s 0 22)) a1) 0 22 ((gI s 0 22) + (1 : Int32)))) ∧ (¬ ((gI s 0 22) < (256 : Int32)) → Q s))) : calV PP 29 14 [.ref 0, .int a1] s Q := by
  refine cal_of (me := cm29) (ls := [some (.ref 0), some (.int a1)]) rfl (Nat.le_of_ble_eq_true rfl) rfl ?_
  refine wpc_sl (n := 2) (c' := 14) (pc' := 4) (ls' := [some (.ref 0), some (.int a1)]) (st' := [.int (gI s 0 22)]) (s' := s) rfl ?_
  refine wpc_if (a := 37) (b := 7) rfl (by decide) rfl rfl (wpc_br (p := (gI s 0 22) < (0 : Int32)) ⟨fun hc400 => ?_, fun hc400 => ?_⟩)
  · have h401 := h.1 hc400
    exact wpc_ret rfl rfl (fun q => absurd q (by decide)) rfl ⟨rfl, h401⟩
  · have h402 := h.2 hc400
    refine wpc_sl (n := 3) (c' := 14) (pc' := 14) (ls' := [some (.ref 0), some (.int a1)]) (st' := [.int (256 : Int32), .int (gI s 0 22)]) (s' := s) rfl ?_
    refine wpc_icmp (a := 37) (b := 17) rfl (by decide) rfl rfl (wpc_br (p := (gI s 0 22) < (256 : Int32)) ⟨fun hc403 => ?_, fun hc403 => ?_⟩)
    · have h404 := h402.1 hc403
      refine wpc_sl (n := 5) (c' := 14) (pc' := 26) (ls' := [some (.ref 0), some (.int a1)]) (st' := [.int a1, .int (gI s 0 22), .ref 13]) (s' := s) rfl ?_
      refine wpc_staI (a := 12) (N := 256) (s' := (sI s 13 (ix (gI s 0 22)) a1)) rfl rfl (by decide) h404.1 rfl ?_
      have h406 := h404.2
      refine wpc_sl (n := 6) (c' := 14) (pc' := 37) (ls' := [some (.ref 0), some (.int a1)]) (st' := []) (s' := (sI (sI s 13 (ix (gI s 0 22)) a1) 0 22 ((gI s 0 22) + (1 : Int32)))) rfl ?_
      exact wpc_ret rfl rfl (fun q => absurd q (by decide)) rfl ⟨rfl, h406⟩
    · have h405 := h402.2 hc403
      exact wpc_ret rfl rfl (fun q => absurd q (by decide)) rfl ⟨rfl, h405⟩
theorem c28_in (a1 : Int32) (a2 : Int32) (s : St) (Q : Int32 → St → Prop) (h : inb 16 a2 ∧ (((256 : Int32) < ((gI s 0 19) + (gI s 2 (ix a2)))) → Q (0 : Int32) s) ∧ (¬ ((256 : Int32) < ((gI s 0 19) + (gI s 2 (ix a2)))) → inb 256 a1 ∧ wpcI PP 28 cm28 14 47 [some (.ref 0), some (.int a1), some (.int a2), some (.int (gI s 2 (ix a2))), some (.int (gI s 0 19)), some (.int (0 : Int32)), none] [] (sI (sI s 12 (ix a1) a2) 0 22 ((gI s 0 22) - (1 : Int32))) Q)) : calI PP 28 14 [.ref 0, .int a1, .int a2] s Q := by
  refine cal_of (me := cm28) (ls := [some (.ref 0), some (.int a1), some (.int a2), none, none, none, none]) rfl (Nat.le_of_ble_eq_true rfl) rfl ?_
  refine wpc_sl (n := 3) (c' := 14) (pc' := 5) (ls' := [some (.ref 0), some (.int a1), some (.int a2), none, none, none, none]) (st' := [.int a2, .ref 2]) (s' := s) rfl ?_
  refine wpc_ldaI (a := 1) (N := 16) (v := (gI s 2 (ix a2))) rfl rfl (by decide) h.1 rfl ?_
  have h382 := h.2
  refine wpc_sl (n := 6) (c' := 14) (pc' := 16) (ls' := [some (.ref 0), some (.int a1), some (.int a2), some (.int (gI s 2 (ix a2))), none, none, none]) (st' := [.int (256 : Int32), .int ((gI s 0 19) + (gI s 2 (ix a2)))]) (s' := s) rfl ?_
  refine wpc_icmp (a := 21) (b := 19) rfl (by decide) rfl rfl (wpc_br (p := (256 : Int32) < ((gI s 0 19) + (gI s 2 (ix a2)))) ⟨fun hc383 => ?_, fun hc383 => ?_⟩)
  · have h384 := h382.1 hc383
    refine wpc_sl (n := 1) (c' := 14) (pc' := 20) (ls' := [some (.ref 0), some (.int a1), some (.int a2), some (.int (gI s 2 (ix a2))), none, none, none]) (st' := [.int (0 : Int32)]) (s' := s) rfl ?_
    exact wpc_ret rfl rfl (fun q => absurd q (by decide)) rfl ⟨(0 : Int32), rfl, h384⟩
  · have h385 := h382.2 hc383
    refine wpc_sl (n := 4) (c' := 14) (pc' := 27) (ls' := [some (.ref 0), some (.int a1), some (.int a2), some (.int (gI s 2 (ix a2))), none, none, none]) (st' := [.int a2, .int a1, .ref 12]) (s' := s) rfl ?_
    refine wpc_staI (a := 11) (N := 256) (s' := (sI s 12 (ix a1) a2)) rfl rfl (by decide) h385.1 rfl ?_
    have h386 := h385.2
    refine wpc_sl (n := 11) (c' := 14) (pc' := 47) (ls' := [some (.ref 0), some (.int a1), some (.int a2), some (.int (gI s 2 (ix a2))), some (.int (gI s 0 19)), some (.int (0 : Int32)), none]) (st' := []) (s' := (sI (sI s 12 (ix a1) a2) 0 22 ((gI s 0 22) - (1 : Int32)))) rfl ?_
    exact h386
theorem c28_47 (x1 : Int32) (x2 : Int32) (x3 : Int32) (x4 : Int32) (x5 : Int32) (s : St) (Q : Int32 → St → Prop) (h : ((x5 < x3) → inb 96 ((x2 * (6 : Int32)) + x5) ∧ inb 256 (x4 + x5) ∧ inb 256 (x4 + x5) ∧ inb 256 (x4 + x5) ∧ wpcI PP 28 cm28 14 47 [some (.ref 0), some (.int x1), some (.int x2), some (.int x3), some (.int x4), some (.int (x5 + (1 : Int32))), none] [] (sI (sI (sI s 10 (ix (x4 + x5)) (gI s 3 (ix ((x2 * (6 : Int32)) + x5)))) 11 (ix (x4 + x5)) x1) 12 (ix (x4 + x5)) (-1 : Int32)) Q) ∧ (¬ (x5 < x3) → wpcI PP 28 cm28 14 114 [some (.ref 0), none, none, none, some (.int x4), some (.int (x3 - (1 : Int32))), none] [] (sI s 0 19 (x4 + x3)) Q)) : wpcI PP 28 cm28 14 47 [some (.ref 0), some (.int x1), some (.int x2), some (.int x3), some (.int x4), some (.int x5), none] [] s Q := by
  refine wpc_sl (n := 2) (c' := 14) (pc' := 50) (ls' := [some (.ref 0), some (.int x1), some (.int x2), some (.int x3), some (.int x4), some (.int x5), none]) (st' := [.int x3, .int x5]) (s' := s) rfl ?_
  refine wpc_icmp (a := 101) (b := 53) rfl (by decide) rfl rfl (wpc_br (p := x5 < x3) ⟨fun hc387 => ?_, fun hc387 => ?_⟩)
  · have h388 := h.1 hc387
    refine wpc_sl (n := 14) (c' := 14) (pc' := 77) (ls' := [some (.ref 0), some (.int x1), some (.int x2), some (.int x3), some (.int x4), some (.int x5), some (.int (x4 + x5))]) (st' := [.int ((x2 * (6 : Int32)) + x5), .ref 3, .int (x4 + x5), .ref 10]) (s' := s) rfl ?_
    refine wpc_ldaI (a := 2) (N := 96) (v := (gI s 3 (ix ((x2 * (6 : Int32)) + x5)))) rfl rfl (by decide) h388.1 rfl ?_
    have h390 := h388.2
    refine wpc_staI (a := 9) (N := 256) (s' := (sI s 10 (ix (x4 + x5)) (gI s 3 (ix ((x2 * (6 : Int32)) + x5))))) rfl rfl (by decide) h390.1 rfl ?_
    have h391 := h390.2
    refine wpc_sl (n := 4) (c' := 14) (pc' := 86) (ls' := [some (.ref 0), some (.int x1), some (.int x2), some (.int x3), some (.int x4), some (.int x5), some (.int (x4 + x5))]) (st' := [.int x1, .int (x4 + x5), .ref 11]) (s' := (sI s 10 (ix (x4 + x5)) (gI s 3 (ix ((x2 * (6 : Int32)) + x5))))) rfl ?_
    refine wpc_staI (a := 10) (N := 256) (s' := (sI (sI s 10 (ix (x4 + x5)) (gI s 3 (ix ((x2 * (6 : Int32)) + x5)))) 11 (ix (x4 + x5)) x1)) rfl rfl (by decide) h391.1 rfl ?_
    have h392 := h391.2
    refine wpc_sl (n := 4) (c' := 14) (pc' := 94) (ls' := [some (.ref 0), some (.int x1), some (.int x2), some (.int x3), some (.int x4), some (.int x5), some (.int (x4 + x5))]) (st' := [.int (-1 : Int32), .int (x4 + x5), .ref 12]) (s' := (sI (sI s 10 (ix (x4 + x5)) (gI s 3 (ix ((x2 * (6 : Int32)) + x5)))) 11 (ix (x4 + x5)) x1)) rfl ?_
    refine wpc_staI (a := 11) (N := 256) (s' := (sI (sI (sI s 10 (ix (x4 + x5)) (gI s 3 (ix ((x2 * (6 : Int32)) + x5)))) 11 (ix (x4 + x5)) x1) 12 (ix (x4 + x5)) (-1 : Int32))) rfl rfl (by decide) h392.1 rfl ?_
    have h393 := h392.2
    refine wpc_sl (n := 2) (c' := 14) (pc' := 47) (ls' := [some (.ref 0), some (.int x1), some (.int x2), some (.int x3), some (.int x4), some (.int (x5 + (1 : Int32))), some (.int (x4 + x5))]) (st' := []) (s' := (sI (sI (sI s 10 (ix (x4 + x5)) (gI s 3 (ix ((x2 * (6 : Int32)) + x5)))) 11 (ix (x4 + x5)) x1) 12 (ix (x4 + x5)) (-1 : Int32))) rfl ?_
    exact wpc_lle (ls := [some (.ref 0), some (.int x1), some (.int x2), some (.int x3), some (.int x4), some (.int (x5 + (1 : Int32))), none]) ⟨rfl, rfl, rfl, rfl, rfl, rfl, trivial⟩ h393
  · have h389 := h.2 hc387
    refine wpc_sl (n := 9) (c' := 14) (pc' := 114) (ls' := [some (.ref 0), some (.int x1), some (.int x2), some (.int x3), some (.int x4), some (.int (x3 - (1 : Int32))), none]) (st' := []) (s' := (sI s 0 19 (x4 + x3))) rfl ?_
    exact wpc_lle (ls := [some (.ref 0), none, none, none, some (.int x4), some (.int (x3 - (1 : Int32))), none]) ⟨rfl, rfl, rfl, trivial⟩ h389
theorem c28_114 (x4 : Int32) (x5 : Int32) (s : St) (Q : Int32 → St → Prop) (h : ((x5 < (0 : Int32)) → Q (1 : Int32) s) ∧ (¬ (x5 < (0 : Int32)) → calV PP 29 14 [.ref 0, .int (x4 + x5)] s (fun s397 => wpcI PP 28 cm28 14 114 [some (.ref 0), none, none, none, some (.int x4), some (.int (x5 + (-1 : Int32))), none] [] s397 Q))) : wpcI PP 28 cm28 14 114 [some (.ref 0), none, none, none, some (.int x4), some (.int x5), none] [] s Q := by
  refine wpc_sl (n := 1) (c' := 14) (pc' := 116) (ls' := [some (.ref 0), none, none, none, some (.int x4), some (.int x5), none]) (st' := [.int x5]) (s' := s) rfl ?_
  refine wpc_if (a := 134) (b := 119) rfl (by decide) rfl rfl (wpc_br (p := x5 < (0 : Int32)) ⟨fun hc394 => ?_, fun hc394 => ?_⟩)
  · have h395 := h.1 hc394
    refine wpc_sl (n := 1) (c' := 14) (pc' := 135) (ls' := [some (.ref 0), none, none, none, some (.int x4), some (.int x5), none]) (st' := [.int (1 : Int32)]) (s' := s) rfl ?_
    exact wpc_ret rfl rfl (fun q => absurd q (by decide)) rfl ⟨(1 : Int32), rfl, h395⟩
  · have h396 := h.2 hc394
    refine wpc_sl (n := 4) (c' := 14) (pc' := 125) (ls' := [some (.ref 0), none, none, none, some (.int x4), some (.int x5), none]) (st' := [.int (x4 + x5), .ref 0]) (s' := s) rfl ?_
    refine wpc_callV (m' := 29) (me' := cm29) (as := [.int (x4 + x5)]) (r := []) rfl rfl rfl rfl rfl ⟨by decide, (by first | decide | exact Nat.le_of_ble_eq_true rfl), (by first | decide | exact Nat.le_of_ble_eq_true rfl), rfl⟩ (calV.mono h396 fun s397 h399 => ?_)
    refine wpc_sl (n := 2) (c' := 14) (pc' := 114) (ls' := [some (.ref 0), none, none, none, some (.int x4), some (.int (x5 + (-1 : Int32))), none]) (st' := []) (s' := s397) rfl ?_
    exact h399
theorem c27_in (a1 : Int32) (a2 : Int32) (s : St) (Q : Int32 → St → Prop) (h : calI PP 23 14 [.ref 0] s (fun v331 s330 => inb 128 ((a2 * (16 : Int32)) + v331) ∧ (((gI s330 7 (ix ((a2 * (16 : Int32)) + v331))) < (0 : Int32)) → calV PP 31 14 [.ref 0, .int a2] s330 (fun s337 => Q (1 : Int32) s337)) ∧ (¬ ((gI s330 7 (ix ((a2 * (16 : Int32)) + v331))) < (0 : Int32)) → calI PP 28 14 [.ref 0, .int a1, .int (gI s330 7 (ix ((a2 * (16 : Int32)) + v331)))] s330 (fun v341 s340 => Q (v341 &&& 1) s340)))) : calI PP 27 14 [.ref 0, .int a1, .int a2] s Q := by
  refine cal_of (me := cm27) (ls := [some (.ref 0), some (.int a1), some (.int a2), none, none]) rfl (Nat.le_of_ble_eq_true rfl) rfl ?_
  refine wpc_sl (n := 1) (c' := 14) (pc' := 1) (ls' := [some (.ref 0), some (.int a1), some (.int a2), none, none]) (st' := [.ref 0]) (s' := s) rfl ?_
  refine wpc_callI (m' := 23) (me' := cm23) (as := []) (r := []) rfl rfl rfl rfl rfl ⟨by decide, (by first | decide | exact Nat.le_of_ble_eq_true rfl), (by first | decide | exact Nat.le_of_ble_eq_true rfl), rfl⟩ (calI.mono h fun v331 s330 h332 => ?_)
  refine wpc_sl (n := 8) (c' := 14) (pc' := 15) (ls' := [some (.ref 0), some (.int a1), some (.int a2), some (.int v331), none]) (st' := [.int ((a2 * (16 : Int32)) + v331), .ref 7]) (s' := s330) rfl ?_
  refine wpc_ldaI (a := 6) (N := 128) (v := (gI s330 7 (ix ((a2 * (16 : Int32)) + v331)))) rfl rfl (by decide) h332.1 rfl ?_
  have h333 := h332.2
  refine wpc_sl (n := 2) (c' := 14) (pc' := 20) (ls' := [some (.ref 0), some (.int a1), some (.int a2), some (.int v331), some (.int (gI s330 7 (ix ((a2 * (16 : Int32)) + v331))))]) (st' := [.int (gI s330 7 (ix ((a2 * (16 : Int32)) + v331)))]) (s' := s330) rfl ?_
  refine wpc_if (a := 31) (b := 23) rfl (by decide) rfl rfl (wpc_br (p := (gI s330 7 (ix ((a2 * (16 : Int32)) + v331))) < (0 : Int32)) ⟨fun hc334 => ?_, fun hc334 => ?_⟩)
  · have h335 := h333.1 hc334
    refine wpc_sl (n := 2) (c' := 14) (pc' := 33) (ls' := [some (.ref 0), some (.int a1), some (.int a2), some (.int v331), some (.int (gI s330 7 (ix ((a2 * (16 : Int32)) + v331))))]) (st' := [.int a2, .ref 0]) (s' := s330) rfl ?_
    refine wpc_callV (m' := 31) (me' := cm31) (as := [.int a2]) (r := []) rfl rfl rfl rfl rfl ⟨by decide, (by first | decide | exact Nat.le_of_ble_eq_true rfl), (by first | decide | exact Nat.le_of_ble_eq_true rfl), rfl⟩ (calV.mono h335 fun s337 h339 => ?_)
    refine wpc_sl (n := 1) (c' := 14) (pc' := 37) (ls' := [some (.ref 0), some (.int a1), some (.int a2), some (.int v331), some (.int (gI s330 7 (ix ((a2 * (16 : Int32)) + v331))))]) (st' := [.int (1 : Int32)]) (s' := s337) rfl ?_
    exact wpc_ret rfl rfl (fun q => absurd q (by decide)) rfl ⟨(1 : Int32), rfl, h339⟩
  · have h336 := h333.2 hc334
    refine wpc_sl (n := 3) (c' := 14) (pc' := 27) (ls' := [some (.ref 0), some (.int a1), some (.int a2), some (.int v331), some (.int (gI s330 7 (ix ((a2 * (16 : Int32)) + v331))))]) (st' := [.int (gI s330 7 (ix ((a2 * (16 : Int32)) + v331))), .int a1, .ref 0]) (s' := s330) rfl ?_
    refine wpc_callI (m' := 28) (me' := cm28) (as := [.int a1, .int (gI s330 7 (ix ((a2 * (16 : Int32)) + v331)))]) (r := []) rfl rfl rfl rfl rfl ⟨by decide, (by first | decide | exact Nat.le_of_ble_eq_true rfl), (by first | decide | exact Nat.le_of_ble_eq_true rfl), rfl⟩ (calI.mono h336 fun v341 s340 h342 => ?_)
    exact wpc_ret rfl rfl (fun q => absurd q (by decide)) rfl ⟨(v341 &&& 1), rfl, h342⟩
theorem c25_in  (s : St) (Q : St → Prop) (h : wpcV PP 25 cm25 14 2 [some (.ref 0), some (.int (0 : Int32))] [] s Q) : calV PP 25 14 [.ref 0] s Q := by
  refine cal_of (me := cm25) (ls := [some (.ref 0), none]) rfl (Nat.le_of_ble_eq_true rfl) rfl ?_
  refine wpc_sl (n := 2) (c' := 14) (pc' := 2) (ls' := [some (.ref 0), some (.int (0 : Int32))]) (st' := []) (s' := s) rfl ?_
  exact h
theorem c25_2 (x1 : Int32) (s : St) (Q : St → Prop) (h : ((x1 < (32 : Int32)) → (((gI s 0 23) < (gI s 0 18)) → inb 32 (gI s 0 23) ∧ calV PP 24 14 [.ref 0, .int (2 : Int32), .int (gI s 0 23), .int (gI s 9 (ix (gI s 0 23)))] s (fun s414 => wpcV PP 25 cm25 14 2 [some (.ref 0), some (.int (x1 + (1 : Int32)))] [] (sI s414 0 23 ((gI s414 0 23) + (1 : Int32))) Q)) ∧ (¬ ((gI s 0 23) < (gI s 0 18)) → Q s)) ∧ (¬ (x1 < (32 : Int32)) → Q s)) : wpcV PP 25 cm25 14 2 [some (.ref 0), some (.int x1)] [] s Q := by
  refine wpc_sl (n := 2) (c' := 14) (pc' := 5) (ls' := [some (.ref 0), some (.int x1)]) (st' := [.int (32 : Int32), .int x1]) (s' := s) rfl ?_
  refine wpc_icmp (a := 53) (b := 8) rfl (by decide) rfl rfl (wpc_br (p := x1 < (32 : Int32)) ⟨fun hc407 => ?_, fun hc407 => ?_⟩)
  · have h408 := h.1 hc407
    refine wpc_sl (n := 4) (c' := 14) (pc' := 16) (ls' := [some (.ref 0), some (.int x1)]) (st' := [.int (gI s 0 18), .int (gI s 0 23)]) (s' := s) rfl ?_
    refine wpc_icmp (a := 53) (b := 19) rfl (by decide) rfl rfl (wpc_br (p := (gI s 0 23) < (gI s 0 18)) ⟨fun hc410 => ?_, fun hc410 => ?_⟩)
    · have h411 := h408.1 hc410
      refine wpc_sl (n := 8) (c' := 14) (pc' := 33) (ls' := [some (.ref 0), some (.int x1)]) (st' := [.int (gI s 0 23), .ref 9, .int (gI s 0 23), .int (2 : Int32), .ref 0]) (s' := s) rfl ?_
      refine wpc_ldaI (a := 8) (N := 32) (v := (gI s 9 (ix (gI s 0 23)))) rfl rfl (by decide) h411.1 rfl ?_
      have h413 := h411.2
      refine wpc_callV (m' := 24) (me' := cm24) (as := [.int (2 : Int32), .int (gI s 0 23), .int (gI s 9 (ix (gI s 0 23)))]) (r := []) rfl rfl rfl rfl rfl ⟨by decide, (by first | decide | exact Nat.le_of_ble_eq_true rfl), (by first | decide | exact Nat.le_of_ble_eq_true rfl), rfl⟩ (calV.mono h413 fun s414 h416 => ?_)
      refine wpc_sl (n := 8) (c' := 14) (pc' := 2) (ls' := [some (.ref 0), some (.int (x1 + (1 : Int32)))]) (st' := []) (s' := (sI s414 0 23 ((gI s414 0 23) + (1 : Int32)))) rfl ?_
      exact h416
    · have h412 := h408.2 hc410
      exact wpc_ret rfl rfl (fun q => absurd q (by decide)) rfl ⟨rfl, h412⟩
  · have h409 := h.2 hc407
    exact wpc_ret rfl rfl (fun q => absurd q (by decide)) rfl ⟨rfl, h409⟩
theorem c22_in  (s : St) (Q : Int32 → St → Prop) (h : (((gI s 0 24) = (0 : Int32)) → Q (-1 : Int32) s) ∧ (¬ ((gI s 0 24) = (0 : Int32)) → (((gI s 0 25) = (0 : Int32)) → inb 256 (0 : Int32) ∧ inb 256 (0 : Int32) ∧ inb 256 (0 : Int32) ∧ inb 256 (0 : Int32) ∧ wpcI PP 22 cm22 14 67 [some (.ref 0), some (.int (0 : Int32)), none, none] [] (sI (sI (sI (sI (sI (sI (sI (sI s 0 25 (1 : Int32)) 0 19 (1 : Int32)) 10 (ix (0 : Int32)) (16 : Int32)) 11 (ix (0 : Int32)) (-1 : Int32)) 12 (ix (0 : Int32)) (-1 : Int32)) 13 (ix (0 : Int32)) (0 : Int32)) 0 22 (1 : Int32)) 0 23 (0 : Int32)) Q) ∧ (¬ ((gI s 0 25) = (0 : Int32)) → Q (-1 : Int32) s))) : calI PP 22 14 [.ref 0] s Q := by
  refine cal_of (me := cm22) (ls := [some (.ref 0), none, none, none]) rfl (Nat.le_of_ble_eq_true rfl) rfl ?_
  refine wpc_sl (n := 2) (c' := 14) (pc' := 4) (ls' := [some (.ref 0), none, none, none]) (st' := [.int (gI s 0 24)]) (s' := s) rfl ?_
  refine wpc_if (a := 14) (b := 7) rfl (by decide) rfl rfl (wpc_br (p := (gI s 0 24) = (0 : Int32)) ⟨fun hc267 => ?_, fun hc267 => ?_⟩)
  · have h268 := h.1 hc267
    refine wpc_sl (n := 1) (c' := 14) (pc' := 15) (ls' := [some (.ref 0), none, none, none]) (st' := [.int (-1 : Int32)]) (s' := s) rfl ?_
    exact wpc_ret rfl rfl (fun q => absurd q (by decide)) rfl ⟨(-1 : Int32), rfl, h268⟩
  · have h269 := h.2 hc267
    refine wpc_sl (n := 2) (c' := 14) (pc' := 11) (ls' := [some (.ref 0), none, none, none]) (st' := [.int (gI s 0 25)]) (s' := s) rfl ?_
    refine wpc_if (a := 16) (b := 14) rfl (by decide) rfl rfl (wpc_br (p := (gI s 0 25) = (0 : Int32)) ⟨fun hc270 => ?_, fun hc270 => ?_⟩)
    · have h271 := h269.1 hc270
      refine wpc_sl (n := 10) (c' := 14) (pc' := 33) (ls' := [some (.ref 0), none, none, none]) (st' := [.int (16 : Int32), .int (0 : Int32), .ref 10]) (s' := (sI (sI s 0 25 (1 : Int32)) 0 19 (1 : Int32))) rfl ?_
      refine wpc_staI (a := 9) (N := 256) (s' := (sI (sI (sI s 0 25 (1 : Int32)) 0 19 (1 : Int32)) 10 (ix (0 : Int32)) (16 : Int32))) rfl rfl (by decide) h271.1 rfl ?_
      have h273 := h271.2
      refine wpc_sl (n := 4) (c' := 14) (pc' := 40) (ls' := [some (.ref 0), none, none, none]) (st' := [.int (-1 : Int32), .int (0 : Int32), .ref 11]) (s' := (sI (sI (sI s 0 25 (1 : Int32)) 0 19 (1 : Int32)) 10 (ix (0 : Int32)) (16 : Int32))) rfl ?_
      refine wpc_staI (a := 10) (N := 256) (s' := (sI (sI (sI (sI s 0 25 (1 : Int32)) 0 19 (1 : Int32)) 10 (ix (0 : Int32)) (16 : Int32)) 11 (ix (0 : Int32)) (-1 : Int32))) rfl rfl (by decide) h273.1 rfl ?_
      have h274 := h273.2
      refine wpc_sl (n := 4) (c' := 14) (pc' := 47) (ls' := [some (.ref 0), none, none, none]) (st' := [.int (-1 : Int32), .int (0 : Int32), .ref 12]) (s' := (sI (sI (sI (sI s 0 25 (1 : Int32)) 0 19 (1 : Int32)) 10 (ix (0 : Int32)) (16 : Int32)) 11 (ix (0 : Int32)) (-1 : Int32))) rfl ?_
      refine wpc_staI (a := 11) (N := 256) (s' := (sI (sI (sI (sI (sI s 0 25 (1 : Int32)) 0 19 (1 : Int32)) 10 (ix (0 : Int32)) (16 : Int32)) 11 (ix (0 : Int32)) (-1 : Int32)) 12 (ix (0 : Int32)) (-1 : Int32))) rfl rfl (by decide) h274.1 rfl ?_
      have h275 := h274.2
      refine wpc_sl (n := 4) (c' := 14) (pc' := 54) (ls' := [some (.ref 0), none, none, none]) (st' := [.int (0 : Int32), .int (0 : Int32), .ref 13]) (s' := (sI (sI (sI (sI (sI s 0 25 (1 : Int32)) 0 19 (1 : Int32)) 10 (ix (0 : Int32)) (16 : Int32)) 11 (ix (0 : Int32)) (-1 : Int32)) 12 (ix (0 : Int32)) (-1 : Int32))) rfl ?_
      refine wpc_staI (a := 12) (N := 256) (s' := (sI (sI (sI (sI (sI (sI s 0 25 (1 : Int32)) 0 19 (1 : Int32)) 10 (ix (0 : Int32)) (16 : Int32)) 11 (ix (0 : Int32)) (-1 : Int32)) 12 (ix (0 : Int32)) (-1 : Int32)) 13 (ix (0 : Int32)) (0 : Int32))) rfl rfl (by decide) h275.1 rfl ?_
      have h276 := h275.2
      refine wpc_sl (n := 8) (c' := 14) (pc' := 67) (ls' := [some (.ref 0), some (.int (0 : Int32)), none, none]) (st' := []) (s' := (sI (sI (sI (sI (sI (sI (sI (sI s 0 25 (1 : Int32)) 0 19 (1 : Int32)) 10 (ix (0 : Int32)) (16 : Int32)) 11 (ix (0 : Int32)) (-1 : Int32)) 12 (ix (0 : Int32)) (-1 : Int32)) 13 (ix (0 : Int32)) (0 : Int32)) 0 22 (1 : Int32)) 0 23 (0 : Int32))) rfl ?_
      exact h276
    · have h272 := h269.2 hc270
      refine wpc_sl (n := 1) (c' := 14) (pc' := 15) (ls' := [some (.ref 0), none, none, none]) (st' := [.int (-1 : Int32)]) (s' := s) rfl ?_
      exact wpc_ret rfl rfl (fun q => absurd q (by decide)) rfl ⟨(-1 : Int32), rfl, h272⟩
theorem c22_67 (x1 : Int32) (s : St) (Q : Int32 → St → Prop) (h : ((x1 < (2048 : Int32)) → (((0 : Int32) < (gI s 0 22)) → inb 256 ((gI s 0 22) - (1 : Int32)) ∧ inb 256 (gI s 13 (ix ((gI s 0 22) - (1 : Int32)))) ∧ (((gI s 10 (ix (gI s 13 (ix ((gI s 0 22) - (1 : Int32)))))) < (16 : Int32)) → calV PP 26 14 [.ref 0, .int (gI s 13 (ix ((gI s 0 22) - (1 : Int32)))), .int (gI s 10 (ix (gI s 13 (ix ((gI s 0 22) - (1 : Int32))))))] s (fun s288 => wpcI PP 22 cm22 14 136 [some (.ref 0), some (.int x1), none, none] [] s288 Q)) ∧ (¬ ((gI s 10 (ix (gI s 13 (ix ((gI s 0 22) - (1 : Int32)))))) < (16 : Int32)) → calI PP 27 14 [.ref 0, .int (gI s 13 (ix ((gI s 0 22) - (1 : Int32)))), .int ((gI s 10 (ix (gI s 13 (ix ((gI s 0 22) - (1 : Int32)))))) - (16 : Int32))] s (fun v292 s291 => ((v292 = (0 : Int32)) → Q (2 : Int32) s291) ∧ (¬ (v292 = (0 : Int32)) → wpcI PP 22 cm22 14 136 [some (.ref 0), some (.int x1), none, none] [] s291 Q)))) ∧ (¬ ((0 : Int32) < (gI s 0 22)) → calV PP 25 14 [.ref 0] s (fun s297 => wpcI PP 22 cm22 14 142 [some (.ref 0), none, none, none] [] s297 Q))) ∧ (¬ (x1 < (2048 : Int32)) → wpcI PP 22 cm22 14 142 [some (.ref 0), none, none, none] [] s Q)) : wpcI PP 22 cm22 14 67 [some (.ref 0), some (.int x1), none, none] [] s Q := by
  refine wpc_sl (n := 2) (c' := 14) (pc' := 71) (ls' := [some (.ref 0), some (.int x1), none, none]) (st' := [.int (2048 : Int32), .int x1]) (s' := s) rfl ?_
  refine wpc_icmp (a := 142) (b := 74) rfl (by decide) rfl rfl (wpc_br (p := x1 < (2048 : Int32)) ⟨fun hc277 => ?_, fun hc277 => ?_⟩)
  · have h278 := h.1 hc277
    refine wpc_sl (n := 2) (c' := 14) (pc' := 78) (ls' := [some (.ref 0), some (.int x1), none, none]) (st' := [.int (gI s 0 22)]) (s' := s) rfl ?_
    refine wpc_if (a := 88) (b := 81) rfl (by decide) rfl rfl (wpc_br (p := (0 : Int32) < (gI s 0 22)) ⟨fun hc280 => ?_, fun hc280 => ?_⟩)
    · have h281 := h278.1 hc280
      refine wpc_sl (n := 6) (c' := 14) (pc' := 98) (ls' := [some (.ref 0), some (.int x1), none, none]) (st' := [.int ((gI s 0 22) - (1 : Int32)), .ref 13]) (s' := s) rfl ?_
      refine wpc_ldaI (a := 12) (N := 256) (v := (gI s 13 (ix ((gI s 0 22) - (1 : Int32))))) rfl rfl (by decide) h281.1 rfl ?_
      have h283 := h281.2
      refine wpc_sl (n := 4) (c' := 14) (pc' := 105) (ls' := [some (.ref 0), some (.int x1), some (.int (gI s 13 (ix ((gI s 0 22) - (1 : Int32))))), none]) (st' := [.int (gI s 13 (ix ((gI s 0 22) - (1 : Int32)))), .ref 10]) (s' := s) rfl ?_
      refine wpc_ldaI (a := 9) (N := 256) (v := (gI s 10 (ix (gI s 13 (ix ((gI s 0 22) - (1 : Int32))))))) rfl rfl (by decide) h283.1 rfl ?_
      have h284 := h283.2
      refine wpc_sl (n := 3) (c' := 14) (pc' := 110) (ls' := [some (.ref 0), some (.int x1), some (.int (gI s 13 (ix ((gI s 0 22) - (1 : Int32))))), some (.int (gI s 10 (ix (gI s 13 (ix ((gI s 0 22) - (1 : Int32)))))))]) (st' := [.int (16 : Int32), .int (gI s 10 (ix (gI s 13 (ix ((gI s 0 22) - (1 : Int32))))))]) (s' := s) rfl ?_
      refine wpc_icmp (a := 122) (b := 113) rfl (by decide) rfl rfl (wpc_br (p := (gI s 10 (ix (gI s 13 (ix ((gI s 0 22) - (1 : Int32)))))) < (16 : Int32)) ⟨fun hc285 => ?_, fun hc285 => ?_⟩)
      · have h286 := h284.1 hc285
        refine wpc_sl (n := 3) (c' := 14) (pc' := 116) (ls' := [some (.ref 0), some (.int x1), some (.int (gI s 13 (ix ((gI s 0 22) - (1 : Int32))))), some (.int (gI s 10 (ix (gI s 13 (ix ((gI s 0 22) - (1 : Int32)))))))]) (st' := [.int (gI s 10 (ix (gI s 13 (ix ((gI s 0 22) - (1 : Int32)))))), .int (gI s 13 (ix ((gI s 0 22) - (1 : Int32)))), .ref 0]) (s' := s) rfl ?_
        refine wpc_callV (m' := 26) (me' := cm26) (as := [.int (gI s 13 (ix ((gI s 0 22) - (1 : Int32)))), .int (gI s 10 (ix (gI s 13 (ix ((gI s 0 22) - (1 : Int32))))))]) (r := []) rfl rfl rfl rfl rfl ⟨by decide, (by first | decide | exact Nat.le_of_ble_eq_true rfl), (by first | decide | exact Nat.le_of_ble_eq_true rfl), rfl⟩ (calV.mono h286 fun s288 h290 => ?_)
        refine wpc_sl (n := 1) (c' := 14) (pc' := 136) (ls' := [some (.ref 0), some (.int x1), some (.int (gI s 13 (ix ((gI s 0 22) - (1 : Int32))))), some (.int (gI s 10 (ix (gI s 13 (ix ((gI s 0 22) - (1 : Int32)))))))]) (st' := []) (s' := s288) rfl ?_
        exact wpc_lle (ls := [some (.ref 0), some (.int x1), none, none]) ⟨rfl, rfl, trivial⟩ h290
      · have h287 := h284.2 hc285
        refine wpc_sl (n := 5) (c' := 14) (pc' := 128) (ls' := [some (.ref 0), some (.int x1), some (.int (gI s 13 (ix ((gI s 0 22) - (1 : Int32))))), some (.int (gI s 10 (ix (gI s 13 (ix ((gI s 0 22) - (1 : Int32)))))))]) (st' := [.int ((gI s 10 (ix (gI s 13 (ix ((gI s 0 22) - (1 : Int32)))))) - (16 : Int32)), .int (gI s 13 (ix ((gI s 0 22) - (1 : Int32)))), .ref 0]) (s' := s) rfl ?_
        refine wpc_callI (m' := 27) (me' := cm27) (as := [.int (gI s 13 (ix ((gI s 0 22) - (1 : Int32)))), .int ((gI s 10 (ix (gI s 13 (ix ((gI s 0 22) - (1 : Int32)))))) - (16 : Int32))]) (r := []) rfl rfl rfl rfl rfl ⟨by decide, (by first | decide | exact Nat.le_of_ble_eq_true rfl), (by first | decide | exact Nat.le_of_ble_eq_true rfl), rfl⟩ (calI.mono h287 fun v292 s291 h293 => ?_)
        refine wpc_if (a := 136) (b := 134) rfl (by decide) rfl rfl (wpc_br (p := v292 = (0 : Int32)) ⟨fun hc294 => ?_, fun hc294 => ?_⟩)
        · have h295 := h293.1 hc294
          refine wpc_sl (n := 1) (c' := 14) (pc' := 135) (ls' := [some (.ref 0), some (.int x1), some (.int (gI s 13 (ix ((gI s 0 22) - (1 : Int32))))), some (.int (gI s 10 (ix (gI s 13 (ix ((gI s 0 22) - (1 : Int32)))))))]) (st' := [.int (2 : Int32)]) (s' := s291) rfl ?_
          exact wpc_ret rfl rfl (fun q => absurd q (by decide)) rfl ⟨(2 : Int32), rfl, h295⟩
        · have h296 := h293.2 hc294
          exact wpc_lle (ls := [some (.ref 0), some (.int x1), none, none]) ⟨rfl, rfl, trivial⟩ h296
    · have h282 := h278.2 hc280
      refine wpc_sl (n := 1) (c' := 14) (pc' := 82) (ls' := [some (.ref 0), some (.int x1), none, none]) (st' := [.ref 0]) (s' := s) rfl ?_
      refine wpc_callV (m' := 25) (me' := cm25) (as := []) (r := []) rfl rfl rfl rfl rfl ⟨by decide, (by first | decide | exact Nat.le_of_ble_eq_true rfl), (by first | decide | exact Nat.le_of_ble_eq_true rfl), rfl⟩ (calV.mono h282 fun s297 h299 => ?_)
      refine wpc_sl (n := 1) (c' := 14) (pc' := 142) (ls' := [some (.ref 0), some (.int x1), none, none]) (st' := []) (s' := s297) rfl ?_
      exact wpc_lle (ls := [some (.ref 0), none, none, none]) ⟨rfl, trivial⟩ h299
  · have h279 := h.2 hc277
    exact wpc_lle (ls := [some (.ref 0), none, none, none]) ⟨rfl, trivial⟩ h279
theorem c22_136 (x1 : Int32) (s : St) (Q : Int32 → St → Prop) (h : wpcI PP 22 cm22 14 67 [some (.ref 0), some (.int (x1 + (1 : Int32))), none, none] [] s Q) : wpcI PP 22 cm22 14 136 [some (.ref 0), some (.int x1), none, none] [] s Q := by
  refine wpc_sl (n := 2) (c' := 14) (pc' := 67) (ls' := [some (.ref 0), some (.int (x1 + (1 : Int32))), none, none]) (st' := []) (s' := s) rfl ?_
  exact h
theorem c22_142  (s : St) (Q : Int32 → St → Prop) (h : (((gI s 0 21) = (0 : Int32)) → Q (0 : Int32) s) ∧ (¬ ((gI s 0 21) = (0 : Int32)) → Q (1 : Int32) s)) : wpcI PP 22 cm22 14 142 [some (.ref 0), none, none, none] [] s Q := by
  refine wpc_sl (n := 2) (c' := 14) (pc' := 146) (ls' := [some (.ref 0), none, none, none]) (st' := [.int (gI s 0 21)]) (s' := s) rfl ?_
  refine wpc_if (a := 151) (b := 149) rfl (by decide) rfl rfl (wpc_br (p := (gI s 0 21) = (0 : Int32)) ⟨fun hc300 => ?_, fun hc300 => ?_⟩)
  · have h301 := h.1 hc300
    refine wpc_sl (n := 1) (c' := 14) (pc' := 150) (ls' := [some (.ref 0), none, none, none]) (st' := [.int (0 : Int32)]) (s' := s) rfl ?_
    exact wpc_ret rfl rfl (fun q => absurd q (by decide)) rfl ⟨(0 : Int32), rfl, h301⟩
  · have h302 := h.2 hc300
    refine wpc_sl (n := 1) (c' := 14) (pc' := 152) (ls' := [some (.ref 0), none, none, none]) (st' := [.int (1 : Int32)]) (s' := s) rfl ?_
    exact wpc_ret rfl rfl (fun q => absurd q (by decide)) rfl ⟨(1 : Int32), rfl, h302⟩
theorem c7_in (a1 : Int32) (a2 : Int32) (s : St) (Q : Int32 → St → Prop) (h : inb 16 a1 ∧ wpcI PP 7 cm7 14 10 [some (.ref 0), some (.int a1), none, some (.int (gI s 2 (ix a1))), some (.int a2), none] [] s Q) : calI PP 7 14 [.ref 0, .int a1, .int a2] s Q := by
  refine cal_of (me := cm7) (ls := [some (.ref 0), some (.int a1), some (.int a2), none, none, none]) rfl (Nat.le_of_ble_eq_true rfl) rfl ?_
  refine wpc_sl (n := 3) (c' := 14) (pc' := 5) (ls' := [some (.ref 0), some (.int a1), some (.int a2), none, none, none]) (st' := [.int a1, .ref 2]) (s' := s) rfl ?_
  refine wpc_ldaI (a := 1) (N := 16) (v := (gI s 2 (ix a1))) rfl rfl (by decide) h.1 rfl ?_
  have h466 := h.2
  refine wpc_sl (n := 3) (c' := 14) (pc' := 10) (ls' := [some (.ref 0), some (.int a1), some (.int a2), some (.int (gI s 2 (ix a1))), some (.int a2), none]) (st' := []) (s' := s) rfl ?_
  exact wpc_lle (ls := [some (.ref 0), some (.int a1), none, some (.int (gI s 2 (ix a1))), some (.int a2), none]) ⟨rfl, rfl, rfl, rfl, trivial⟩ h466
theorem c7_10 (x1 : Int32) (x3 : Int32) (x4 : Int32) (s : St) (Q : Int32 → St → Prop) (h : ((x4 < x3) → inb 96 ((x1 * (6 : Int32)) + x4) ∧ (((gI s 3 (ix ((x1 * (6 : Int32)) + x4))) < (16 : Int32)) → Q (0 : Int32) s) ∧ (¬ ((gI s 3 (ix ((x1 * (6 : Int32)) + x4))) < (16 : Int32)) → inb 8 ((gI s 3 (ix ((x1 * (6 : Int32)) + x4))) - (16 : Int32)) ∧ (((gI s 4 (ix ((gI s 3 (ix ((x1 * (6 : Int32)) + x4))) - (16 : Int32)))) = (0 : Int32)) → Q (0 : Int32) s) ∧ (¬ ((gI s 4 (ix ((gI s 3 (ix ((x1 * (6 : Int32)) + x4))) - (16 : Int32)))) = (0 : Int32)) → wpcI PP 7 cm7 14 10 [some (.ref 0), some (.int x1), none, some (.int x3), some (.int (x4 + (1 : Int32))), none] [] s Q))) ∧ (¬ (x4 < x3) → Q (1 : Int32) s)) : wpcI PP 7 cm7 14 10 [some (.ref 0), some (.int x1), none, some (.int x3), some (.int x4), none] [] s Q := by
  refine wpc_sl (n := 2) (c' := 14) (pc' := 13) (ls' := [some (.ref 0), some (.int x1), none, some (.int x3), some (.int x4), none]) (st' := [.int x3, .int x4]) (s' := s) rfl ?_
  refine wpc_icmp (a := 60) (b := 16) rfl (by decide) rfl rfl (wpc_br (p := x4 < x3) ⟨fun hc467 => ?_, fun hc467 => ?_⟩)
  · have h468 := h.1 hc467
    refine wpc_sl (n := 7) (c' := 14) (pc' := 27) (ls' := [some (.ref 0), some (.int x1), none, some (.int x3), some (.int x4), none]) (st' := [.int ((x1 * (6 : Int32)) + x4), .ref 3]) (s' := s) rfl ?_
    refine wpc_ldaI (a := 2) (N := 96) (v := (gI s 3 (ix ((x1 * (6 : Int32)) + x4)))) rfl rfl (by decide) h468.1 rfl ?_
    have h470 := h468.2
    refine wpc_sl (n := 3) (c' := 14) (pc' := 34) (ls' := [some (.ref 0), some (.int x1), none, some (.int x3), some (.int x4), some (.int (gI s 3 (ix ((x1 * (6 : Int32)) + x4))))]) (st' := [.int (16 : Int32), .int (gI s 3 (ix ((x1 * (6 : Int32)) + x4)))]) (s' := s) rfl ?_
    refine wpc_icmp (a := 39) (b := 37) rfl (by decide) rfl rfl (wpc_br (p := (gI s 3 (ix ((x1 * (6 : Int32)) + x4))) < (16 : Int32)) ⟨fun hc471 => ?_, fun hc471 => ?_⟩)
    · have h472 := h470.1 hc471
      refine wpc_sl (n := 1) (c' := 14) (pc' := 38) (ls' := [some (.ref 0), some (.int x1), none, some (.int x3), some (.int x4), some (.int (gI s 3 (ix ((x1 * (6 : Int32)) + x4))))]) (st' := [.int (0 : Int32)]) (s' := s) rfl ?_
      exact wpc_ret rfl rfl (fun q => absurd q (by decide)) rfl ⟨(0 : Int32), rfl, h472⟩
    · have h473 := h470.2 hc471
      refine wpc_sl (n := 5) (c' := 14) (pc' := 48) (ls' := [some (.ref 0), some (.int x1), none, some (.int x3), some (.int x4), some (.int (gI s 3 (ix ((x1 * (6 : Int32)) + x4))))]) (st' := [.int ((gI s 3 (ix ((x1 * (6 : Int32)) + x4))) - (16 : Int32)), .ref 4]) (s' := s) rfl ?_
      refine wpc_ldaZ (a := 3) (N := 8) (v := (gI s 4 (ix ((gI s 3 (ix ((x1 * (6 : Int32)) + x4))) - (16 : Int32))))) rfl rfl (by decide) h473.1 rfl ?_
      have h474 := h473.2
      refine wpc_if (a := 54) (b := 52) rfl (by decide) rfl rfl (wpc_br (p := (gI s 4 (ix ((gI s 3 (ix ((x1 * (6 : Int32)) + x4))) - (16 : Int32)))) = (0 : Int32)) ⟨fun hc475 => ?_, fun hc475 => ?_⟩)
      · have h476 := h474.1 hc475
        refine wpc_sl (n := 1) (c' := 14) (pc' := 53) (ls' := [some (.ref 0), some (.int x1), none, some (.int x3), some (.int x4), some (.int (gI s 3 (ix ((x1 * (6 : Int32)) + x4))))]) (st' := [.int (0 : Int32)]) (s' := s) rfl ?_
        exact wpc_ret rfl rfl (fun q => absurd q (by decide)) rfl ⟨(0 : Int32), rfl, h476⟩
      · have h477 := h474.2 hc475
        refine wpc_sl (n := 2) (c' := 14) (pc' := 10) (ls' := [some (.ref 0), some (.int x1), none, some (.int x3), some (.int (x4 + (1 : Int32))), some (.int (gI s 3 (ix ((x1 * (6 : Int32)) + x4))))]) (st' := []) (s' := s) rfl ?_
        exact wpc_lle (ls := [some (.ref 0), some (.int x1), none, some (.int x3), some (.int (x4 + (1 : Int32))), none]) ⟨rfl, rfl, rfl, rfl, trivial⟩ h477
  · have h469 := h.2 hc467
    refine wpc_sl (n := 1) (c' := 14) (pc' := 61) (ls' := [some (.ref 0), some (.int x1), none, some (.int x3), some (.int x4), none]) (st' := [.int (1 : Int32)]) (s' := s) rfl ?_
    exact wpc_ret rfl rfl (fun q => absurd q (by decide)) rfl ⟨(1 : Int32), rfl, h469⟩
theorem c9_in  (s : St) (Q : Int32 → St → Prop) (h : wpcI PP 9 cm9 14 4 [some (.ref 0), some (.int (0 : Int32)), some (.int (0 : Int32)), none] [] s Q) : calI PP 9 14 [.ref 0] s Q := by
  refine cal_of (me := cm9) (ls := [some (.ref 0), none, none, none]) rfl (Nat.le_of_ble_eq_true rfl) rfl ?_
  refine wpc_sl (n := 4) (c' := 14) (pc' := 4) (ls' := [some (.ref 0), some (.int (0 : Int32)), some (.int (0 : Int32)), none]) (st' := []) (s' := s) rfl ?_
  exact h
theorem c9_4 (x1 : Int32) (x2 : Int32) (s : St) (Q : Int32 → St → Prop) (h : ((x2 < (gI s 0 17)) → inb 16 x2 ∧ inb 8 (gI s 1 (ix x2)) ∧ (((gI s 4 (ix (gI s 1 (ix x2)))) = (0 : Int32)) → calI PP 7 14 [.ref 0, .int x2, .int (0 : Int32)] s (fun v460 s459 => ((v460 = (0 : Int32)) → wpcI PP 9 cm9 14 46 [some (.ref 0), some (.int x1), some (.int x2), none] [] s459 Q) ∧ (¬ (v460 = (0 : Int32)) → inb 8 (gI s 1 (ix x2)) ∧ wpcI PP 9 cm9 14 46 [some (.ref 0), some (.int (1 : Int32)), some (.int x2), none] [] (sI s459 4 (ix (gI s 1 (ix x2))) (1 : Int32)) Q))) ∧ (¬ ((gI s 4 (ix (gI s 1 (ix x2)))) = (0 : Int32)) → wpcI PP 9 cm9 14 46 [some (.ref 0), some (.int x1), some (.int x2), none] [] s Q)) ∧ (¬ (x2 < (gI s 0 17)) → Q (x1 &&& 1) s)) : wpcI PP 9 cm9 14 4 [some (.ref 0), some (.int x1), some (.int x2), none] [] s Q := by
  refine wpc_sl (n := 3) (c' := 14) (pc' := 9) (ls' := [some (.ref 0), some (.int x1), some (.int x2), none]) (st' := [.int (gI s 0 17), .int x2]) (s' := s) rfl ?_
  refine wpc_icmp (a := 52) (b := 12) rfl (by decide) rfl rfl (wpc_br (p := x2 < (gI s 0 17)) ⟨fun hc451 => ?_, fun hc451 => ?_⟩)
  · have h452 := h.1 hc451
    refine wpc_sl (n := 3) (c' := 14) (pc' := 17) (ls' := [some (.ref 0), some (.int x1), some (.int x2), none]) (st' := [.int x2, .ref 1]) (s' := s) rfl ?_
    refine wpc_ldaI (a := 0) (N := 16) (v := (gI s 1 (ix x2))) rfl rfl (by decide) h452.1 rfl ?_
    have h454 := h452.2
    refine wpc_sl (n := 4) (c' := 14) (pc' := 24) (ls' := [some (.ref 0), some (.int x1), some (.int x2), some (.int (gI s 1 (ix x2)))]) (st' := [.int (gI s 1 (ix x2)), .ref 4]) (s' := s) rfl ?_
    refine wpc_ldaZ (a := 3) (N := 8) (v := (gI s 4 (ix (gI s 1 (ix x2))))) rfl rfl (by decide) h454.1 rfl ?_
    have h455 := h454.2
    refine wpc_if (a := 46) (b := 28) rfl (by decide) rfl rfl (wpc_br (p := (gI s 4 (ix (gI s 1 (ix x2)))) = (0 : Int32)) ⟨fun hc456 => ?_, fun hc456 => ?_⟩)
    · have h457 := h455.1 hc456
      refine wpc_sl (n := 3) (c' := 14) (pc' := 31) (ls' := [some (.ref 0), some (.int x1), some (.int x2), some (.int (gI s 1 (ix x2)))]) (st' := [.int (0 : Int32), .int x2, .ref 0]) (s' := s) rfl ?_
      refine wpc_callI (m' := 7) (me' := cm7) (as := [.int x2, .int (0 : Int32)]) (r := []) rfl rfl rfl rfl rfl ⟨by decide, (by first | decide | exact Nat.le_of_ble_eq_true rfl), (by first | decide | exact Nat.le_of_ble_eq_true rfl), rfl⟩ (calI.mono h457 fun v460 s459 h461 => ?_)
      refine wpc_if (a := 46) (b := 37) rfl (by decide) rfl rfl (wpc_br (p := v460 = (0 : Int32)) ⟨fun hc462 => ?_, fun hc462 => ?_⟩)
      · have h463 := h461.1 hc462
        exact wpc_lle (ls := [some (.ref 0), some (.int x1), some (.int x2), none]) ⟨rfl, rfl, rfl, trivial⟩ h463
      · have h464 := h461.2 hc462
        refine wpc_sl (n := 4) (c' := 14) (pc' := 43) (ls' := [some (.ref 0), some (.int x1), some (.int x2), some (.int (gI s 1 (ix x2)))]) (st' := [.int (1 : Int32), .int (gI s 1 (ix x2)), .ref 4]) (s' := s459) rfl ?_
        refine wpc_staZ (a := 3) (N := 8) (s' := (sI s459 4 (ix (gI s 1 (ix x2))) (1 : Int32))) rfl rfl (by decide) h464.1 rfl ?_
        have h465 := h464.2
        refine wpc_sl (n := 2) (c' := 14) (pc' := 46) (ls' := [some (.ref 0), some (.int (1 : Int32)), some (.int x2), some (.int (gI s 1 (ix x2)))]) (st' := []) (s' := (sI s459 4 (ix (gI s 1 (ix x2))) (1 : Int32))) rfl ?_
        exact wpc_lle (ls := [some (.ref 0), some (.int (1 : Int32)), some (.int x2), none]) ⟨rfl, rfl, rfl, trivial⟩ h465
    · have h458 := h455.2 hc456
      exact wpc_lle (ls := [some (.ref 0), some (.int x1), some (.int x2), none]) ⟨rfl, rfl, rfl, trivial⟩ h458
  · have h453 := h.2 hc451
    refine wpc_sl (n := 1) (c' := 14) (pc' := 53) (ls' := [some (.ref 0), some (.int x1), some (.int x2), none]) (st' := [.int x1]) (s' := s) rfl ?_
    exact wpc_ret rfl rfl (fun q => absurd q (by decide)) rfl ⟨(x1 &&& 1), rfl, h453⟩
theorem c9_46 (x1 : Int32) (x2 : Int32) (s : St) (Q : Int32 → St → Prop) (h : wpcI PP 9 cm9 14 4 [some (.ref 0), some (.int x1), some (.int (x2 + (1 : Int32))), none] [] s Q) : wpcI PP 9 cm9 14 46 [some (.ref 0), some (.int x1), some (.int x2), none] [] s Q := by
  refine wpc_sl (n := 2) (c' := 14) (pc' := 4) (ls' := [some (.ref 0), some (.int x1), some (.int (x2 + (1 : Int32))), none]) (st' := []) (s' := s) rfl ?_
  exact h
theorem c8_in (a1 : Int32) (a2 : Int32) (s : St) (Q : Int32 → St → Prop) (h : inb 16 a1 ∧ wpcI PP 8 cm8 14 13 [some (.ref 0), some (.int a1), none, some (.int (gI s 2 (ix a1))), some (.int (0 : Int32)), some (.int a2), none] [] s Q) : calI PP 8 14 [.ref 0, .int a1, .int a2] s Q := by
  refine cal_of (me := cm8) (ls := [some (.ref 0), some (.int a1), some (.int a2), none, none, none, none]) rfl (Nat.le_of_ble_eq_true rfl) rfl ?_
  refine wpc_sl (n := 3) (c' := 14) (pc' := 5) (ls' := [some (.ref 0), some (.int a1), some (.int a2), none, none, none, none]) (st' := [.int a1, .ref 2]) (s' := s) rfl ?_
  refine wpc_ldaI (a := 1) (N := 16) (v := (gI s 2 (ix a1))) rfl rfl (by decide) h.1 rfl ?_
  have h492 := h.2
  refine wpc_sl (n := 5) (c' := 14) (pc' := 13) (ls' := [some (.ref 0), some (.int a1), some (.int a2), some (.int (gI s 2 (ix a1))), some (.int (0 : Int32)), some (.int a2), none]) (st' := []) (s' := s) rfl ?_
  exact wpc_lle (ls := [some (.ref 0), some (.int a1), none, some (.int (gI s 2 (ix a1))), some (.int (0 : Int32)), some (.int a2), none]) ⟨rfl, rfl, rfl, rfl, rfl, trivial⟩ h492
theorem c8_13 (x1 : Int32) (x3 : Int32) (x4 : Int32) (x5 : Int32) (s : St) (Q : Int32 → St → Prop) (h : ((x5 < x3) → inb 96 ((x1 * (6 : Int32)) + x5) ∧ (((gI s 3 (ix ((x1 * (6 : Int32)) + x5))) < (16 : Int32)) → Q (x4 ||| ((1 : Int32) <<< ((gI s 3 (ix ((x1 * (6 : Int32)) + x5))) &&& 31))) s) ∧ (¬ ((gI s 3 (ix ((x1 * (6 : Int32)) + x5))) < (16 : Int32)) → inb 8 ((gI s 3 (ix ((x1 * (6 : Int32)) + x5))) - (16 : Int32)) ∧ inb 8 ((gI s 3 (ix ((x1 * (6 : Int32)) + x5))) - (16 : Int32)) ∧ (((gI s 4 (ix ((gI s 3 (ix ((x1 * (6 : Int32)) + x5))) - (16 : Int32)))) = (0 : Int32)) → Q (x4 ||| (gI s 5 (ix ((gI s 3 (ix ((x1 * (6 : Int32)) + x5))) - (16 : Int32))))) s) ∧ (¬ ((gI s 4 (ix ((gI s 3 (ix ((x1 * (6 : Int32)) + x5))) - (16 : Int32)))) = (0 : Int32)) → wpcI PP 8 cm8 14 13 [some (.ref 0), some (.int x1), none, some (.int x3), some (.int (x4 ||| (gI s 5 (ix ((gI s 3 (ix ((x1 * (6 : Int32)) + x5))) - (16 : Int32)))))), some (.int (x5 + (1 : Int32))), none] [] s Q))) ∧ (¬ (x5 < x3) → Q x4 s)) : wpcI PP 8 cm8 14 13 [some (.ref 0), some (.int x1), none, some (.int x3), some (.int x4), some (.int x5), none] [] s Q := by
  refine wpc_sl (n := 2) (c' := 14) (pc' := 16) (ls' := [some (.ref 0), some (.int x1), none, some (.int x3), some (.int x4), some (.int x5), none]) (st' := [.int x3, .int x5]) (s' := s) rfl ?_
  refine wpc_icmp (a := 85) (b := 19) rfl (by decide) rfl rfl (wpc_br (p := x5 < x3) ⟨fun hc493 => ?_, fun hc493 => ?_⟩)
  · have h494 := h.1 hc493
    refine wpc_sl (n := 7) (c' := 14) (pc' := 30) (ls' := [some (.ref 0), some (.int x1), none, some (.int x3), some (.int x4), some (.int x5), none]) (st' := [.int ((x1 * (6 : Int32)) + x5), .ref 3]) (s' := s) rfl ?_
    refine wpc_ldaI (a := 2) (N := 96) (v := (gI s 3 (ix ((x1 * (6 : Int32)) + x5)))) rfl rfl (by decide) h494.1 rfl ?_
    have h496 := h494.2
    refine wpc_sl (n := 3) (c' := 14) (pc' := 37) (ls' := [some (.ref 0), some (.int x1), none, some (.int x3), some (.int x4), some (.int x5), some (.int (gI s 3 (ix ((x1 * (6 : Int32)) + x5))))]) (st' := [.int (16 : Int32), .int (gI s 3 (ix ((x1 * (6 : Int32)) + x5)))]) (s' := s) rfl ?_
    refine wpc_icmp (a := 48) (b := 40) rfl (by decide) rfl rfl (wpc_br (p := (gI s 3 (ix ((x1 * (6 : Int32)) + x5))) < (16 : Int32)) ⟨fun hc497 => ?_, fun hc497 => ?_⟩)
    · have h498 := h496.1 hc497
      refine wpc_sl (n := 5) (c' := 14) (pc' := 47) (ls' := [some (.ref 0), some (.int x1), none, some (.int x3), some (.int x4), some (.int x5), some (.int (gI s 3 (ix ((x1 * (6 : Int32)) + x5))))]) (st' := [.int (x4 ||| ((1 : Int32) <<< ((gI s 3 (ix ((x1 * (6 : Int32)) + x5))) &&& 31)))]) (s' := s) rfl ?_
      exact wpc_ret rfl rfl (fun q => absurd q (by decide)) rfl ⟨(x4 ||| ((1 : Int32) <<< ((gI s 3 (ix ((x1 * (6 : Int32)) + x5))) &&& 31))), rfl, h498⟩
    · have h499 := h496.2 hc497
      refine wpc_sl (n := 6) (c' := 14) (pc' := 59) (ls' := [some (.ref 0), some (.int x1), none, some (.int x3), some (.int x4), some (.int x5), some (.int (gI s 3 (ix ((x1 * (6 : Int32)) + x5))))]) (st' := [.int ((gI s 3 (ix ((x1 * (6 : Int32)) + x5))) - (16 : Int32)), .ref 5, .int x4]) (s' := s) rfl ?_
      refine wpc_ldaI (a := 4) (N := 8) (v := (gI s 5 (ix ((gI s 3 (ix ((x1 * (6 : Int32)) + x5))) - (16 : Int32))))) rfl rfl (by decide) h499.1 rfl ?_
      have h500 := h499.2
      refine wpc_sl (n := 7) (c' := 14) (pc' := 72) (ls' := [some (.ref 0), some (.int x1), none, some (.int x3), some (.int (x4 ||| (gI s 5 (ix ((gI s 3 (ix ((x1 * (6 : Int32)) + x5))) - (16 : Int32)))))), some (.int x5), some (.int (gI s 3 (ix ((x1 * (6 : Int32)) + x5))))]) (st' := [.int ((gI s 3 (ix ((x1 * (6 : Int32)) + x5))) - (16 : Int32)), .ref 4]) (s' := s) rfl ?_
      refine wpc_ldaZ (a := 3) (N := 8) (v := (gI s 4 (ix ((gI s 3 (ix ((x1 * (6 : Int32)) + x5))) - (16 : Int32))))) rfl rfl (by decide) h500.1 rfl ?_
      have h501 := h500.2
      refine wpc_if (a := 79) (b := 76) rfl (by decide) rfl rfl (wpc_br (p := (gI s 4 (ix ((gI s 3 (ix ((x1 * (6 : Int32)) + x5))) - (16 : Int32)))) = (0 : Int32)) ⟨fun hc502 => ?_, fun hc502 => ?_⟩)
      · have h503 := h501.1 hc502
        refine wpc_sl (n := 1) (c' := 14) (pc' := 78) (ls' := [some (.ref 0), some (.int x1), none, some (.int x3), some (.int (x4 ||| (gI s 5 (ix ((gI s 3 (ix ((x1 * (6 : Int32)) + x5))) - (16 : Int32)))))), some (.int x5), some (.int (gI s 3 (ix ((x1 * (6 : Int32)) + x5))))]) (st' := [.int (x4 ||| (gI s 5 (ix ((gI s 3 (ix ((x1 * (6 : Int32)) + x5))) - (16 : Int32)))))]) (s' := s) rfl ?_
        exact wpc_ret rfl rfl (fun q => absurd q (by decide)) rfl ⟨(x4 ||| (gI s 5 (ix ((gI s 3 (ix ((x1 * (6 : Int32)) + x5))) - (16 : Int32))))), rfl, h503⟩
      · have h504 := h501.2 hc502
        refine wpc_sl (n := 2) (c' := 14) (pc' := 13) (ls' := [some (.ref 0), some (.int x1), none, some (.int x3), some (.int (x4 ||| (gI s 5 (ix ((gI s 3 (ix ((x1 * (6 : Int32)) + x5))) - (16 : Int32)))))), some (.int (x5 + (1 : Int32))), some (.int (gI s 3 (ix ((x1 * (6 : Int32)) + x5))))]) (st' := []) (s' := s) rfl ?_
        exact wpc_lle (ls := [some (.ref 0), some (.int x1), none, some (.int x3), some (.int (x4 ||| (gI s 5 (ix ((gI s 3 (ix ((x1 * (6 : Int32)) + x5))) - (16 : Int32)))))), some (.int (x5 + (1 : Int32))), none]) ⟨rfl, rfl, rfl, rfl, rfl, trivial⟩ h504
  · have h495 := h.2 hc493
    refine wpc_sl (n := 1) (c' := 14) (pc' := 87) (ls' := [some (.ref 0), some (.int x1), none, some (.int x3), some (.int x4), some (.int x5), none]) (st' := [.int x4]) (s' := s) rfl ?_
    exact wpc_ret rfl rfl (fun q => absurd q (by decide)) rfl ⟨x4, rfl, h495⟩
theorem c10_in  (s : St) (Q : Int32 → St → Prop) (h : wpcI PP 10 cm10 14 4 [some (.ref 0), some (.int (0 : Int32)), some (.int (0 : Int32)), none, none] [] s Q) : calI PP 10 14 [.ref 0] s Q := by
  refine cal_of (me := cm10) (ls := [some (.ref 0), none, none, none, none]) rfl (Nat.le_of_ble_eq_true rfl) rfl ?_
  refine wpc_sl (n := 4) (c' := 14) (pc' := 4) (ls' := [some (.ref 0), some (.int (0 : Int32)), some (.int (0 : Int32)), none, none]) (st' := []) (s' := s) rfl ?_
  exact h
theorem c10_4 (x1 : Int32) (x2 : Int32) (s : St) (Q : Int32 → St → Prop) (h : ((x2 < (gI s 0 17)) → inb 16 x2 ∧ calI PP 8 14 [.ref 0, .int x2, .int (0 : Int32)] s (fun v483 s482 => inb 8 (gI s 1 (ix x2)) ∧ inb 8 (gI s 1 (ix x2)) ∧ ((((gI s482 5 (ix (gI s 1 (ix x2)))) ||| v483) = (gI s482 5 (ix (gI s 1 (ix x2))))) → wpcI PP 10 cm10 14 62 [some (.ref 0), some (.int x1), some (.int x2), none, none] [] s482 Q) ∧ (¬ (((gI s482 5 (ix (gI s 1 (ix x2)))) ||| v483) = (gI s482 5 (ix (gI s 1 (ix x2))))) → inb 8 (gI s 1 (ix x2)) ∧ inb 8 (gI s 1 (ix x2)) ∧ wpcI PP 10 cm10 14 62 [some (.ref 0), some (.int (1 : Int32)), some (.int x2), none, none] [] (sI s482 5 (ix (gI s 1 (ix x2))) ((gI s482 5 (ix (gI s 1 (ix x2)))) ||| v483)) Q))) ∧ (¬ (x2 < (gI s 0 17)) → Q (x1 &&& 1) s)) : wpcI PP 10 cm10 14 4 [some (.ref 0), some (.int x1), some (.int x2), none, none] [] s Q := by
  refine wpc_sl (n := 3) (c' := 14) (pc' := 9) (ls' := [some (.ref 0), some (.int x1), some (.int x2), none, none]) (st' := [.int (gI s 0 17), .int x2]) (s' := s) rfl ?_
  refine wpc_icmp (a := 68) (b := 12) rfl (by decide) rfl rfl (wpc_br (p := x2 < (gI s 0 17)) ⟨fun hc478 => ?_, fun hc478 => ?_⟩)
  · have h479 := h.1 hc478
    refine wpc_sl (n := 3) (c' := 14) (pc' := 17) (ls' := [some (.ref 0), some (.int x1), some (.int x2), none, none]) (st' := [.int x2, .ref 1]) (s' := s) rfl ?_
    refine wpc_ldaI (a := 0) (N := 16) (v := (gI s 1 (ix x2))) rfl rfl (by decide) h479.1 rfl ?_
    have h481 := h479.2
    refine wpc_sl (n := 4) (c' := 14) (pc' := 22) (ls' := [some (.ref 0), some (.int x1), some (.int x2), some (.int (gI s 1 (ix x2))), none]) (st' := [.int (0 : Int32), .int x2, .ref 0]) (s' := s) rfl ?_
    refine wpc_callI (m' := 8) (me' := cm8) (as := [.int x2, .int (0 : Int32)]) (r := []) rfl rfl rfl rfl rfl ⟨by decide, (by first | decide | exact Nat.le_of_ble_eq_true rfl), (by first | decide | exact Nat.le_of_ble_eq_true rfl), rfl⟩ (calI.mono h481 fun v483 s482 h484 => ?_)
    refine wpc_sl (n := 4) (c' := 14) (pc' := 32) (ls' := [some (.ref 0), some (.int x1), some (.int x2), some (.int (gI s 1 (ix x2))), some (.int v483)]) (st' := [.int (gI s 1 (ix x2)), .ref 5]) (s' := s482) rfl ?_
    refine wpc_ldaI (a := 4) (N := 8) (v := (gI s482 5 (ix (gI s 1 (ix x2))))) rfl rfl (by decide) h484.1 rfl ?_
    have h485 := h484.2
    refine wpc_sl (n := 5) (c' := 14) (pc' := 41) (ls' := [some (.ref 0), some (.int x1), some (.int x2), some (.int (gI s 1 (ix x2))), some (.int v483)]) (st' := [.int (gI s 1 (ix x2)), .ref 5, .int ((gI s482 5 (ix (gI s 1 (ix x2)))) ||| v483)]) (s' := s482) rfl ?_
    refine wpc_ldaI (a := 4) (N := 8) (v := (gI s482 5 (ix (gI s 1 (ix x2))))) rfl rfl (by decide) h485.1 rfl ?_
    have h486 := h485.2
    refine wpc_icmp (a := 62) (b := 45) rfl (by decide) rfl rfl (wpc_br (p := ((gI s482 5 (ix (gI s 1 (ix x2)))) ||| v483) = (gI s482 5 (ix (gI s 1 (ix x2))))) ⟨fun hc487 => ?_, fun hc487 => ?_⟩)
    · have h488 := h486.1 hc487
      exact wpc_lle (ls := [some (.ref 0), some (.int x1), some (.int x2), none, none]) ⟨rfl, rfl, rfl, trivial⟩ h488
    · have h489 := h486.2 hc487
      refine wpc_sl (n := 6) (c' := 14) (pc' := 55) (ls' := [some (.ref 0), some (.int x1), some (.int x2), some (.int (gI s 1 (ix x2))), some (.int v483)]) (st' := [.int (gI s 1 (ix x2)), .ref 5, .int (gI s 1 (ix x2)), .ref 5]) (s' := s482) rfl ?_
      refine wpc_ldaI (a := 4) (N := 8) (v := (gI s482 5 (ix (gI s 1 (ix x2))))) rfl rfl (by decide) h489.1 rfl ?_
      have h490 := h489.2
      refine wpc_sl (n := 2) (c' := 14) (pc' := 59) (ls' := [some (.ref 0), some (.int x1), some (.int x2), some (.int (gI s 1 (ix x2))), some (.int v483)]) (st' := [.int ((gI s482 5 (ix (gI s 1 (ix x2)))) ||| v483), .int (gI s 1 (ix x2)), .ref 5]) (s' := s482) rfl ?_
      refine wpc_staI (a := 4) (N := 8) (s' := (sI s482 5 (ix (gI s 1 (ix x2))) ((gI s482 5 (ix (gI s 1 (ix x2)))) ||| v483))) rfl rfl (by decide) h490.1 rfl ?_
      have h491 := h490.2
      refine wpc_sl (n := 2) (c' := 14) (pc' := 62) (ls' := [some (.ref 0), some (.int (1 : Int32)), some (.int x2), some (.int (gI s 1 (ix x2))), some (.int v483)]) (st' := []) (s' := (sI s482 5 (ix (gI s 1 (ix x2))) ((gI s482 5 (ix (gI s 1 (ix x2)))) ||| v483))) rfl ?_
      exact wpc_lle (ls := [some (.ref 0), some (.int (1 : Int32)), some (.int x2), none, none]) ⟨rfl, rfl, rfl, trivial⟩ h491
  · have h480 := h.2 hc478
    refine wpc_sl (n := 1) (c' := 14) (pc' := 69) (ls' := [some (.ref 0), some (.int x1), some (.int x2), none, none]) (st' := [.int x1]) (s' := s) rfl ?_
    exact wpc_ret rfl rfl (fun q => absurd q (by decide)) rfl ⟨(x1 &&& 1), rfl, h480⟩
theorem c10_62 (x1 : Int32) (x2 : Int32) (s : St) (Q : Int32 → St → Prop) (h : wpcI PP 10 cm10 14 4 [some (.ref 0), some (.int x1), some (.int (x2 + (1 : Int32))), none, none] [] s Q) : wpcI PP 10 cm10 14 62 [some (.ref 0), some (.int x1), some (.int x2), none, none] [] s Q := by
  refine wpc_sl (n := 2) (c' := 14) (pc' := 4) (ls' := [some (.ref 0), some (.int x1), some (.int (x2 + (1 : Int32))), none, none]) (st' := []) (s' := s) rfl ?_
  exact h
theorem c12_in (a1 : Int32) (s : St) (Q : Int32 → St → Prop) (h : inb 16 a1 ∧ inb 16 a1 ∧ wpcI PP 12 cm12 14 20 [some (.ref 0), some (.int a1), some (.int (gI s 1 (ix a1))), some (.int (gI s 2 (ix a1))), some (.int (0 : Int32)), some (.int (0 : Int32)), none, none, none] [] s Q) : calI PP 12 14 [.ref 0, .int a1] s Q := by
  refine cal_of (me := cm12) (ls := [some (.ref 0), some (.int a1), none, none, none, none, none, none, none]) rfl (Nat.le_of_ble_eq_true rfl) rfl ?_
  refine wpc_sl (n := 3) (c' := 14) (pc' := 5) (ls' := [some (.ref 0), some (.int a1), none, none, none, none, none, none, none]) (st' := [.int a1, .ref 1]) (s' := s) rfl ?_
  refine wpc_ldaI (a := 0) (N := 16) (v := (gI s 1 (ix a1))) rfl rfl (by decide) h.1 rfl ?_
  have h515 := h.2
  refine wpc_sl (n := 4) (c' := 14) (pc' := 12) (ls' := [some (.ref 0), some (.int a1), some (.int (gI s 1 (ix a1))), none, none, none, none, none, none]) (st' := [.int a1, .ref 2]) (s' := s) rfl ?_
  refine wpc_ldaI (a := 1) (N := 16) (v := (gI s 2 (ix a1))) rfl rfl (by decide) h515.1 rfl ?_
  have h516 := h515.2
  refine wpc_sl (n := 5) (c' := 14) (pc' := 20) (ls' := [some (.ref 0), some (.int a1), some (.int (gI s 1 (ix a1))), some (.int (gI s 2 (ix a1))), some (.int (0 : Int32)), some (.int (0 : Int32)), none, none, none]) (st' := []) (s' := s) rfl ?_
  exact h516
theorem c12_20 (x1 : Int32) (x2 : Int32) (x3 : Int32) (x4 : Int32) (x5 : Int32) (s : St) (Q : Int32 → St → Prop) (h : ((x5 < x3) → inb 96 ((x1 * (6 : Int32)) + x5) ∧ (((gI s 3 (ix ((x1 * (6 : Int32)) + x5))) < (16 : Int32)) → wpcI PP 12 cm12 14 131 [some (.ref 0), some (.int x1), some (.int x2), some (.int x3), some (.int x4), some (.int x5), none, none, none] [] s Q) ∧ (¬ ((gI s 3 (ix ((x1 * (6 : Int32)) + x5))) < (16 : Int32)) → calI PP 8 14 [.ref 0, .int x1, .int (x5 + (1 : Int32))] s (fun v525 s524 => calI PP 7 14 [.ref 0, .int x1, .int (x5 + (1 : Int32))] s524 (fun v528 s527 => ((v528 = (0 : Int32)) → wpcI PP 12 cm12 14 91 [some (.ref 0), some (.int x1), some (.int x2), some (.int x3), some (.int x4), some (.int x5), none, some (.int ((gI s 3 (ix ((x1 * (6 : Int32)) + x5))) - (16 : Int32))), some (.int v525)] [] s527 Q) ∧ (¬ (v528 = (0 : Int32)) → inb 8 x2 ∧ wpcI PP 12 cm12 14 91 [some (.ref 0), some (.int x1), some (.int x2), some (.int x3), some (.int x4), some (.int x5), none, some (.int ((gI s 3 (ix ((x1 * (6 : Int32)) + x5))) - (16 : Int32))), some (.int (v525 ||| (gI s527 6 (ix x2))))] [] s527 Q))))) ∧ (¬ (x5 < x3) → Q (x4 &&& 1) s)) : wpcI PP 12 cm12 14 20 [some (.ref 0), some (.int x1), some (.int x2), some (.int x3), some (.int x4), some (.int x5), none, none, none] [] s Q := by
  refine wpc_sl (n := 2) (c' := 14) (pc' := 23) (ls' := [some (.ref 0), some (.int x1), some (.int x2), some (.int x3), some (.int x4), some (.int x5), none, none, none]) (st' := [.int x3, .int x5]) (s' := s) rfl ?_
  refine wpc_icmp (a := 137) (b := 26) rfl (by decide) rfl rfl (wpc_br (p := x5 < x3) ⟨fun hc517 => ?_, fun hc517 => ?_⟩)
  · have h518 := h.1 hc517
    refine wpc_sl (n := 7) (c' := 14) (pc' := 37) (ls' := [some (.ref 0), some (.int x1), some (.int x2), some (.int x3), some (.int x4), some (.int x5), none, none, none]) (st' := [.int ((x1 * (6 : Int32)) + x5), .ref 3]) (s' := s) rfl ?_
    refine wpc_ldaI (a := 2) (N := 96) (v := (gI s 3 (ix ((x1 * (6 : Int32)) + x5)))) rfl rfl (by decide) h518.1 rfl ?_
    have h520 := h518.2
    refine wpc_sl (n := 3) (c' := 14) (pc' := 44) (ls' := [some (.ref 0), some (.int x1), some (.int x2), some (.int x3), some (.int x4), some (.int x5), some (.int (gI s 3 (ix ((x1 * (6 : Int32)) + x5)))), none, none]) (st' := [.int (16 : Int32), .int (gI s 3 (ix ((x1 * (6 : Int32)) + x5)))]) (s' := s) rfl ?_
    refine wpc_icmp (a := 50) (b := 47) rfl (by decide) rfl rfl (wpc_br (p := (gI s 3 (ix ((x1 * (6 : Int32)) + x5))) < (16 : Int32)) ⟨fun hc521 => ?_, fun hc521 => ?_⟩)
    · have h522 := h520.1 hc521
      refine wpc_sl (n := 1) (c' := 14) (pc' := 131) (ls' := [some (.ref 0), some (.int x1), some (.int x2), some (.int x3), some (.int x4), some (.int x5), some (.int (gI s 3 (ix ((x1 * (6 : Int32)) + x5)))), none, none]) (st' := []) (s' := s) rfl ?_
      exact wpc_lle (ls := [some (.ref 0), some (.int x1), some (.int x2), some (.int x3), some (.int x4), some (.int x5), none, none, none]) ⟨rfl, rfl, rfl, rfl, rfl, rfl, trivial⟩ h522
    · have h523 := h520.2 hc521
      refine wpc_sl (n := 9) (c' := 14) (pc' := 63) (ls' := [some (.ref 0), some (.int x1), some (.int x2), some (.int x3), some (.int x4), some (.int x5), some (.int (gI s 3 (ix ((x1 * (6 : Int32)) + x5)))), some (.int ((gI s 3 (ix ((x1 * (6 : Int32)) + x5))) - (16 : Int32))), none]) (st' := [.int (x5 + (1 : Int32)), .int x1, .ref 0]) (s' := s) rfl ?_
      refine wpc_callI (m' := 8) (me' := cm8) (as := [.int x1, .int (x5 + (1 : Int32))]) (r := []) rfl rfl rfl rfl rfl ⟨by decide, (by first | decide | exact Nat.le_of_ble_eq_true rfl), (by first | decide | exact Nat.le_of_ble_eq_true rfl), rfl⟩ (calI.mono h523 fun v525 s524 h526 => ?_)
      refine wpc_sl (n := 6) (c' := 14) (pc' := 74) (ls' := [some (.ref 0), some (.int x1), some (.int x2), some (.int x3), some (.int x4), some (.int x5), some (.int (gI s 3 (ix ((x1 * (6 : Int32)) + x5)))), some (.int ((gI s 3 (ix ((x1 * (6 : Int32)) + x5))) - (16 : Int32))), some (.int v525)]) (st' := [.int (x5 + (1 : Int32)), .int x1, .ref 0]) (s' := s524) rfl ?_
      refine wpc_callI (m' := 7) (me' := cm7) (as := [.int x1, .int (x5 + (1 : Int32))]) (r := []) rfl rfl rfl rfl rfl ⟨by decide, (by first | decide | exact Nat.le_of_ble_eq_true rfl), (by first | decide | exact Nat.le_of_ble_eq_true rfl), rfl⟩ (calI.mono h526 fun v528 s527 h529 => ?_)
      refine wpc_if (a := 91) (b := 80) rfl (by decide) rfl rfl (wpc_br (p := v528 = (0 : Int32)) ⟨fun hc530 => ?_, fun hc530 => ?_⟩)
      · have h531 := h529.1 hc530
        exact wpc_lle (ls := [some (.ref 0), some (.int x1), some (.int x2), some (.int x3), some (.int x4), some (.int x5), none, some (.int ((gI s 3 (ix ((x1 * (6 : Int32)) + x5))) - (16 : Int32))), some (.int v525)]) ⟨rfl, rfl, rfl, rfl, rfl, rfl, rfl, rfl, trivial⟩ h531
      · have h532 := h529.2 hc530
        refine wpc_sl (n := 4) (c' := 14) (pc' := 87) (ls' := [some (.ref 0), some (.int x1), some (.int x2), some (.int x3), some (.int x4), some (.int x5), some (.int (gI s 3 (ix ((x1 * (6 : Int32)) + x5)))), some (.int ((gI s 3 (ix ((x1 * (6 : Int32)) + x5))) - (16 : Int32))), some (.int v525)]) (st' := [.int x2, .ref 6, .int v525]) (s' := s527) rfl ?_
        refine wpc_ldaI (a := 5) (N := 8) (v := (gI s527 6 (ix x2))) rfl rfl (by decide) h532.1 rfl ?_
        have h533 := h532.2
        refine wpc_sl (n := 2) (c' := 14) (pc' := 91) (ls' := [some (.ref 0), some (.int x1), some (.int x2), some (.int x3), some (.int x4), some (.int x5), some (.int (gI s 3 (ix ((x1 * (6 : Int32)) + x5)))), some (.int ((gI s 3 (ix ((x1 * (6 : Int32)) + x5))) - (16 : Int32))), some (.int (v525 ||| (gI s527 6 (ix x2))))]) (st' := []) (s' := s527) rfl ?_
        exact wpc_lle (ls := [some (.ref 0), some (.int x1), some (.int x2), some (.int x3), some (.int x4), some (.int x5), none, some (.int ((gI s 3 (ix ((x1 * (6 : Int32)) + x5))) - (16 : Int32))), some (.int (v525 ||| (gI s527 6 (ix x2))))]) ⟨rfl, rfl, rfl, rfl, rfl, rfl, rfl, rfl, trivial⟩ h533
  · have h519 := h.2 hc517
    refine wpc_sl (n := 1) (c' := 14) (pc' := 139) (ls' := [some (.ref 0), some (.int x1), some (.int x2), some (.int x3), some (.int x4), some (.int x5), none, none, none]) (st' := [.int x4]) (s' := s) rfl ?_
    exact wpc_ret rfl rfl (fun q => absurd q (by decide)) rfl ⟨(x4 &&& 1), rfl, h519⟩
theorem c12_131 (x1 : Int32) (x2 : Int32) (x3 : Int32) (x4 : Int32) (x5 : Int32) (s : St) (Q : Int32 → St → Prop) (h : wpcI PP 12 cm12 14 20 [some (.ref 0), some (.int x1), some (.int x2), some (.int x3), some (.int x4), some (.int (x5 + (1 : Int32))), none, none, none] [] s Q) : wpcI PP 12 cm12 14 131 [some (.ref 0), some (.int x1), some (.int x2), some (.int x3), some (.int x4), some (.int x5), none, none, none] [] s Q := by
  refine wpc_sl (n := 2) (c' := 14) (pc' := 20) (ls' := [some (.ref 0), some (.int x1), some (.int x2), some (.int x3), some (.int x4), some (.int (x5 + (1 : Int32))), none, none, none]) (st' := []) (s' := s) rfl ?_
  exact h
theorem c12_91 (x1 : Int32) (x2 : Int32) (x3 : Int32) (x4 : Int32) (x5 : Int32) (x7 : Int32) (x8 : Int32) (s : St) (Q : Int32 → St → Prop) (h : inb 8 x7 ∧ inb 8 x7 ∧ ((((gI s 6 (ix x7)) ||| x8) = (gI s 6 (ix x7))) → wpcI PP 12 cm12 14 131 [some (.ref 0), some (.int x1), some (.int x2), some (.int x3), some (.int x4), some (.int x5), none, none, none] [] s Q) ∧ (¬ (((gI s 6 (ix x7)) ||| x8) = (gI s 6 (ix x7))) → inb 8 x7 ∧ inb 8 x7 ∧ wpcI PP 12 cm12 14 131 [some (.ref 0), some (.int x1), some (.int x2), some (.int x3), some (.int (1 : Int32)), some (.int x5), none, none, none] [] (sI s 6 (ix x7) ((gI s 6 (ix x7)) ||| x8)) Q)) : wpcI PP 12 cm12 14 91 [some (.ref 0), some (.int x1), some (.int x2), some (.int x3), some (.int x4), some (.int x5), none, some (.int x7), some (.int x8)] [] s Q := by
  refine wpc_sl (n := 3) (c' := 14) (pc' := 97) (ls' := [some (.ref 0), some (.int x1), some (.int x2), some (.int x3), some (.int x4), some (.int x5), none, some (.int x7), some (.int x8)]) (st' := [.int x7, .ref 6]) (s' := s) rfl ?_
  refine wpc_ldaI (a := 5) (N := 8) (v := (gI s 6 (ix x7))) rfl rfl (by decide) h.1 rfl ?_
  have h534 := h.2
  refine wpc_sl (n := 5) (c' := 14) (pc' := 107) (ls' := [some (.ref 0), some (.int x1), some (.int x2), some (.int x3), some (.int x4), some (.int x5), none, some (.int x7), some (.int x8)]) (st' := [.int x7, .ref 6, .int ((gI s 6 (ix x7)) ||| x8)]) (s' := s) rfl ?_
  refine wpc_ldaI (a := 5) (N := 8) (v := (gI s 6 (ix x7))) rfl rfl (by decide) h534.1 rfl ?_
  have h535 := h534.2
  refine wpc_icmp (a := 131) (b := 111) rfl (by decide) rfl rfl (wpc_br (p := ((gI s 6 (ix x7)) ||| x8) = (gI s 6 (ix x7))) ⟨fun hc536 => ?_, fun hc536 => ?_⟩)
  · have h537 := h535.1 hc536
    exact wpc_lle (ls := [some (.ref 0), some (.int x1), some (.int x2), some (.int x3), some (.int x4), some (.int x5), none, none, none]) ⟨rfl, rfl, rfl, rfl, rfl, rfl, trivial⟩ h537
  · have h538 := h535.2 hc536
    refine wpc_sl (n := 6) (c' := 14) (pc' := 123) (ls' := [some (.ref 0), some (.int x1), some (.int x2), some (.int x3), some (.int x4), some (.int x5), none, some (.int x7), some (.int x8)]) (st' := [.int x7, .ref 6, .int x7, .ref 6]) (s' := s) rfl ?_
    refine wpc_ldaI (a := 5) (N := 8) (v := (gI s 6 (ix x7))) rfl rfl (by decide) h538.1 rfl ?_
    have h539 := h538.2
    refine wpc_sl (n := 2) (c' := 14) (pc' := 127) (ls' := [some (.ref 0), some (.int x1), some (.int x2), some (.int x3), some (.int x4), some (.int x5), none, some (.int x7), some (.int x8)]) (st' := [.int ((gI s 6 (ix x7)) ||| x8), .int x7, .ref 6]) (s' := s) rfl ?_
    refine wpc_staI (a := 5) (N := 8) (s' := (sI s 6 (ix x7) ((gI s 6 (ix x7)) ||| x8))) rfl rfl (by decide) h539.1 rfl ?_
    have h540 := h539.2
    refine wpc_sl (n := 2) (c' := 14) (pc' := 131) (ls' := [some (.ref 0), some (.int x1), some (.int x2), some (.int x3), some (.int (1 : Int32)), some (.int x5), none, some (.int x7), some (.int x8)]) (st' := []) (s' := (sI s 6 (ix x7) ((gI s 6 (ix x7)) ||| x8))) rfl ?_
    exact wpc_lle (ls := [some (.ref 0), some (.int x1), some (.int x2), some (.int x3), some (.int (1 : Int32)), some (.int x5), none, none, none]) ⟨rfl, rfl, rfl, rfl, rfl, rfl, trivial⟩ h540
theorem c11_in  (s : St) (Q : Int32 → St → Prop) (h : wpcI PP 11 cm11 14 4 [some (.ref 0), some (.int (0 : Int32)), some (.int (0 : Int32))] [] s Q) : calI PP 11 14 [.ref 0] s Q := by
  refine cal_of (me := cm11) (ls := [some (.ref 0), none, none]) rfl (Nat.le_of_ble_eq_true rfl) rfl ?_
  refine wpc_sl (n := 4) (c' := 14) (pc' := 4) (ls' := [some (.ref 0), some (.int (0 : Int32)), some (.int (0 : Int32))]) (st' := []) (s' := s) rfl ?_
  exact h
theorem c11_4 (x1 : Int32) (x2 : Int32) (s : St) (Q : Int32 → St → Prop) (h : ((x2 < (gI s 0 17)) → calI PP 12 14 [.ref 0, .int x2] s (fun v509 s508 => ∀ m511, m511 = (if v509 = (0 : Int32) then x1 else (1 : Int32)) → (wpcI PP 11 cm11 14 4 [some (.ref 0), some (.int m511), some (.int (x2 + (1 : Int32)))] [] s508 Q))) ∧ (¬ (x2 < (gI s 0 17)) → Q (x1 &&& 1) s)) : wpcI PP 11 cm11 14 4 [some (.ref 0), some (.int x1), some (.int x2)] [] s Q := by
  refine wpc_sl (n := 3) (c' := 14) (pc' := 9) (ls' := [some (.ref 0), some (.int x1), some (.int x2)]) (st' := [.int (gI s 0 17), .int x2]) (s' := s) rfl ?_
  refine wpc_icmp (a := 28) (b := 12) rfl (by decide) rfl rfl (wpc_br (p := x2 < (gI s 0 17)) ⟨fun hc505 => ?_, fun hc505 => ?_⟩)
  · have h506 := h.1 hc505
    refine wpc_sl (n := 2) (c' := 14) (pc' := 14) (ls' := [some (.ref 0), some (.int x1), some (.int x2)]) (st' := [.int x2, .ref 0]) (s' := s) rfl ?_
    refine wpc_callI (m' := 12) (me' := cm12) (as := [.int x2]) (r := []) rfl rfl rfl rfl rfl ⟨by decide, (by first | decide | exact Nat.le_of_ble_eq_true rfl), (by first | decide | exact Nat.le_of_ble_eq_true rfl), rfl⟩ (calI.mono h506 fun v509 s508 h510 => ?_)
    have hm512 : ∀ m511, m511 = (if v509 = (0 : Int32) then x1 else (1 : Int32)) → wpcI PP 11 cm11 14 22 [some (.ref 0), some (.int m511), some (.int x2)] [] s508 Q := by
      intro m511 em511
      have h513 := h510 m511 em511
      refine wpc_sl (n := 2) (c' := 14) (pc' := 4) (ls' := [some (.ref 0), some (.int m511), some (.int (x2 + (1 : Int32)))]) (st' := []) (s' := s508) rfl ?_
      exact h513
    refine wpc_if (a := 22) (b := 20) rfl (by decide) rfl rfl (wpc_br (p := v509 = (0 : Int32)) ⟨fun hc514 => ?_, fun hc514 => ?_⟩)
    · first | exact hm512 _ (by simp only [if_pos hc514]) | exact wpc_lle (by repeat (first | exact trivial | refine ⟨rfl, ?_⟩)) (hm512 _ (by simp only [if_pos hc514]))
    · refine wpc_sl (n := 2) (c' := 14) (pc' := 22) (ls' := [some (.ref 0), some (.int (1 : Int32)), some (.int x2)]) (st' := []) (s' := s508) rfl ?_
      first | exact hm512 _ (by simp only [if_neg hc514]) | exact wpc_lle (by repeat (first | exact trivial | refine ⟨rfl, ?_⟩)) (hm512 _ (by simp only [if_neg hc514]))
  · have h507 := h.2 hc505
    refine wpc_sl (n := 1) (c' := 14) (pc' := 29) (ls' := [some (.ref 0), some (.int x1), some (.int x2)]) (st' := [.int x1]) (s' := s) rfl ?_
    exact wpc_ret rfl rfl (fun q => absurd q (by decide)) rfl ⟨(x1 &&& 1), rfl, h507⟩
theorem c13_in (a1 : Int32) (s : St) (Q : Int32 → St → Prop) (h : calI PP 8 14 [.ref 0, .int a1, .int (0 : Int32)] s (fun v571 s570 => calI PP 7 14 [.ref 0, .int a1, .int (0 : Int32)] s570 (fun v574 s573 => ((v574 = (0 : Int32)) → Q v571 s573) ∧ (¬ (v574 = (0 : Int32)) → inb 16 a1 ∧ inb 8 (gI s573 1 (ix a1)) ∧ Q (v571 ||| (gI s573 6 (ix (gI s573 1 (ix a1))))) s573)))) : calI PP 13 14 [.ref 0, .int a1] s Q := by
  refine cal_of (me := cm13) (ls := [some (.ref 0), some (.int a1), none]) rfl (Nat.le_of_ble_eq_true rfl) rfl ?_
  refine wpc_sl (n := 3) (c' := 14) (pc' := 3) (ls' := [some (.ref 0), some (.int a1), none]) (st' := [.int (0 : Int32), .int a1, .ref 0]) (s' := s) rfl ?_
  refine wpc_callI (m' := 8) (me' := cm8) (as := [.int a1, .int (0 : Int32)]) (r := []) rfl rfl rfl rfl rfl ⟨by decide, (by first | decide | exact Nat.le_of_ble_eq_true rfl), (by first | decide | exact Nat.le_of_ble_eq_true rfl), rfl⟩ (calI.mono h fun v571 s570 h572 => ?_)
  refine wpc_sl (n := 4) (c' := 14) (pc' := 10) (ls' := [some (.ref 0), some (.int a1), some (.int v571)]) (st' := [.int (0 : Int32), .int a1, .ref 0]) (s' := s570) rfl ?_
  refine wpc_callI (m' := 7) (me' := cm7) (as := [.int a1, .int (0 : Int32)]) (r := []) rfl rfl rfl rfl rfl ⟨by decide, (by first | decide | exact Nat.le_of_ble_eq_true rfl), (by first | decide | exact Nat.le_of_ble_eq_true rfl), rfl⟩ (calI.mono h572 fun v574 s573 h575 => ?_)
  refine wpc_if (a := 30) (b := 16) rfl (by decide) rfl rfl (wpc_br (p := v574 = (0 : Int32)) ⟨fun hc576 => ?_, fun hc576 => ?_⟩)
  · have h577 := h575.1 hc576
    refine wpc_sl (n := 1) (c' := 14) (pc' := 31) (ls' := [some (.ref 0), some (.int a1), some (.int v571)]) (st' := [.int v571]) (s' := s573) rfl ?_
    exact wpc_ret rfl rfl (fun q => absurd q (by decide)) rfl ⟨v571, rfl, h577⟩
  · have h578 := h575.2 hc576
    refine wpc_sl (n := 6) (c' := 14) (pc' := 26) (ls' := [some (.ref 0), some (.int a1), some (.int v571)]) (st' := [.int a1, .ref 1, .ref 6, .int v571]) (s' := s573) rfl ?_
    refine wpc_ldaI (a := 0) (N := 16) (v := (gI s573 1 (ix a1))) rfl rfl (by decide) h578.1 rfl ?_
    have h579 := h578.2
    refine wpc_ldaI (a := 5) (N := 8) (v := (gI s573 6 (ix (gI s573 1 (ix a1))))) rfl rfl (by decide) h579.1 rfl ?_
    have h580 := h579.2
    refine wpc_sl (n := 3) (c' := 14) (pc' := 31) (ls' := [some (.ref 0), some (.int a1), some (.int (v571 ||| (gI s573 6 (ix (gI s573 1 (ix a1))))))]) (st' := [.int (v571 ||| (gI s573 6 (ix (gI s573 1 (ix a1)))))]) (s' := s573) rfl ?_
    exact wpc_ret rfl rfl (fun q => absurd q (by decide)) rfl ⟨(v571 ||| (gI s573 6 (ix (gI s573 1 (ix a1))))), rfl, h580⟩
theorem c15_in (a1 : Int32) (s : St) (Q : St → Prop) (h : calI PP 13 14 [.ref 0, .int a1] s (fun v552 s551 => inb 16 a1 ∧ wpcV PP 15 cm15 14 16 [some (.ref 0), some (.int a1), some (.int v552), some (.int (gI s551 1 (ix a1))), some (.int (0 : Int32)), none, none] [] s551 Q)) : calV PP 15 14 [.ref 0, .int a1] s Q := by
  refine cal_of (me := cm15) (ls := [some (.ref 0), some (.int a1), none, none, none, none, none]) rfl (Nat.le_of_ble_eq_true rfl) rfl ?_
  refine wpc_sl (n := 2) (c' := 14) (pc' := 2) (ls' := [some (.ref 0), some (.int a1), none, none, none, none, none]) (st' := [.int a1, .ref 0]) (s' := s) rfl ?_
  refine wpc_callI (m' := 13) (me' := cm13) (as := [.int a1]) (r := []) rfl rfl rfl rfl rfl ⟨by decide, (by first | decide | exact Nat.le_of_ble_eq_true rfl), (by first | decide | exact Nat.le_of_ble_eq_true rfl), rfl⟩ (calI.mono h fun v552 s551 h553 => ?_)
  refine wpc_sl (n := 4) (c' := 14) (pc' := 11) (ls' := [some (.ref 0), some (.int a1), some (.int v552), none, none, none, none]) (st' := [.int a1, .ref 1]) (s' := s551) rfl ?_
  refine wpc_ldaI (a := 0) (N := 16) (v := (gI s551 1 (ix a1))) rfl rfl (by decide) h553.1 rfl ?_
  have h554 := h553.2
  refine wpc_sl (n := 3) (c' := 14) (pc' := 16) (ls' := [some (.ref 0), some (.int a1), some (.int v552), some (.int (gI s551 1 (ix a1))), some (.int (0 : Int32)), none, none]) (st' := []) (s' := s551) rfl ?_
  exact h554
theorem c15_16 (x1 : Int32) (x2 : Int32) (x3 : Int32) (x4 : Int32) (s : St) (Q : St → Prop) (h : (((gI s 0 16) < x4) → Q s) ∧ (¬ ((gI s 0 16) < x4) → ((((x2 >>> (x4 &&& 31)) &&& (1 : Int32)) = (0 : Int32)) → wpcV PP 15 cm15 14 117 [some (.ref 0), some (.int x1), some (.int x2), some (.int x3), some (.int x4), none, none] [] s Q) ∧ (¬ (((x2 >>> (x4 &&& 31)) &&& (1 : Int32)) = (0 : Int32)) → inb 128 ((x3 * (16 : Int32)) + x4) ∧ (((gI s 7 (ix ((x3 * (16 : Int32)) + x4))) < (0 : Int32)) → inb 128 ((x3 * (16 : Int32)) + x4) ∧ wpcV PP 15 cm15 14 117 [some (.ref 0), some (.int x1), some (.int x2), some (.int x3), some (.int x4), none, none] [] (sI s 7 (ix ((x3 * (16 : Int32)) + x4)) x1) Q) ∧ (¬ ((gI s 7 (ix ((x3 * (16 : Int32)) + x4))) < (0 : Int32)) → (((gI s 0 20) < (256 : Int32)) → inb 256 (gI s 0 20) ∧ wpcV PP 15 cm15 14 117 [some (.ref 0), some (.int x1), some (.int x2), some (.int x3), some (.int x4), none, none] [] (sI (sI s 8 (ix (gI s 0 20)) ((((x3 <<< ((16 : Int32) &&& 31)) ||| (x4 <<< ((8 : Int32) &&& 31))) ||| ((gI s 7 (ix ((x3 * (16 : Int32)) + x4))) <<< ((4 : Int32) &&& 31))) ||| x1)) 0 20 ((gI s 0 20) + (1 : Int32))) Q) ∧ (¬ ((gI s 0 20) < (256 : Int32)) → wpcV PP 15 cm15 14 117 [some (.ref 0), some (.int x1), some (.int x2), some (.int x3), some (.int x4), none, none] [] s Q))))) : wpcV PP 15 cm15 14 16 [some (.ref 0), some (.int x1), some (.int x2), some (.int x3), some (.int x4), none, none] [] s Q := by
  refine wpc_sl (n := 3) (c' := 14) (pc' := 22) (ls' := [some (.ref 0), some (.int x1), some (.int x2), some (.int x3), some (.int x4), none, none]) (st' := [.int (gI s 0 16), .int x4]) (s' := s) rfl ?_
  refine wpc_icmp (a := 123) (b := 25) rfl (by decide) rfl rfl (wpc_br (p := (gI s 0 16) < x4) ⟨fun hc555 => ?_, fun hc555 => ?_⟩)
  · have h556 := h.1 hc555
    exact wpc_ret rfl rfl (fun q => absurd q (by decide)) rfl ⟨rfl, h556⟩
  · have h557 := h.2 hc555
    refine wpc_sl (n := 5) (c' := 14) (pc' := 31) (ls' := [some (.ref 0), some (.int x1), some (.int x2), some (.int x3), some (.int x4), none, none]) (st' := [.int ((x2 >>> (x4 &&& 31)) &&& (1 : Int32))]) (s' := s) rfl ?_
    refine wpc_if (a := 37) (b := 34) rfl (by decide) rfl rfl (wpc_br (p := ((x2 >>> (x4 &&& 31)) &&& (1 : Int32)) = (0 : Int32)) ⟨fun hc558 => ?_, fun hc558 => ?_⟩)
    · have h559 := h557.1 hc558
      refine wpc_sl (n := 1) (c' := 14) (pc' := 117) (ls' := [some (.ref 0), some (.int x1), some (.int x2), some (.int x3), some (.int x4), none, none]) (st' := []) (s' := s) rfl ?_
      exact h559
    · have h560 := h557.2 hc558
      refine wpc_sl (n := 9) (c' := 14) (pc' := 52) (ls' := [some (.ref 0), some (.int x1), some (.int x2), some (.int x3), some (.int x4), some (.int ((x3 * (16 : Int32)) + x4)), none]) (st' := [.int ((x3 * (16 : Int32)) + x4), .ref 7]) (s' := s) rfl ?_
      refine wpc_ldaI (a := 6) (N := 128) (v := (gI s 7 (ix ((x3 * (16 : Int32)) + x4)))) rfl rfl (by decide) h560.1 rfl ?_
      have h561 := h560.2
      refine wpc_sl (n := 2) (c' := 14) (pc' := 57) (ls' := [some (.ref 0), some (.int x1), some (.int x2), some (.int x3), some (.int x4), some (.int ((x3 * (16 : Int32)) + x4)), some (.int (gI s 7 (ix ((x3 * (16 : Int32)) + x4))))]) (st' := [.int (gI s 7 (ix ((x3 * (16 : Int32)) + x4)))]) (s' := s) rfl ?_
      refine wpc_if (a := 71) (b := 60) rfl (by decide) rfl rfl (wpc_br (p := (gI s 7 (ix ((x3 * (16 : Int32)) + x4))) < (0 : Int32)) ⟨fun hc562 => ?_, fun hc562 => ?_⟩)
      · have h563 := h561.1 hc562
        refine wpc_sl (n := 4) (c' := 14) (pc' := 67) (ls' := [some (.ref 0), some (.int x1), some (.int x2), some (.int x3), some (.int x4), some (.int ((x3 * (16 : Int32)) + x4)), some (.int (gI s 7 (ix ((x3 * (16 : Int32)) + x4))))]) (st' := [.int x1, .int ((x3 * (16 : Int32)) + x4), .ref 7]) (s' := s) rfl ?_
        refine wpc_staI (a := 6) (N := 128) (s' := (sI s 7 (ix ((x3 * (16 : Int32)) + x4)) x1)) rfl rfl (by decide) h563.1 rfl ?_
        have h565 := h563.2
        refine wpc_sl (n := 1) (c' := 14) (pc' := 117) (ls' := [some (.ref 0), some (.int x1), some (.int x2), some (.int x3), some (.int x4), some (.int ((x3 * (16 : Int32)) + x4)), some (.int (gI s 7 (ix ((x3 * (16 : Int32)) + x4))))]) (st' := []) (s' := (sI s 7 (ix ((x3 * (16 : Int32)) + x4)) x1)) rfl ?_
        exact wpc_lle (ls := [some (.ref 0), some (.int x1), some (.int x2), some (.int x3), some (.int x4), none, none]) ⟨rfl, rfl, rfl, rfl, rfl, trivial⟩ h565
      · have h564 := h561.2 hc562
        refine wpc_sl (n := 3) (c' := 14) (pc' := 78) (ls' := [some (.ref 0), some (.int x1), some (.int x2), some (.int x3), some (.int x4), some (.int ((x3 * (16 : Int32)) + x4)), some (.int (gI s 7 (ix ((x3 * (16 : Int32)) + x4))))]) (st' := [.int (256 : Int32), .int (gI s 0 20)]) (s' := s) rfl ?_
        refine wpc_icmp (a := 117) (b := 81) rfl (by decide) rfl rfl (wpc_br (p := (gI s 0 20) < (256 : Int32)) ⟨fun hc566 => ?_, fun hc566 => ?_⟩)
        · have h567 := h564.1 hc566
          refine wpc_sl (n := 17) (c' := 14) (pc' := 106) (ls' := [some (.ref 0), some (.int x1), some (.int x2), some (.int x3), some (.int x4), some (.int ((x3 * (16 : Int32)) + x4)), some (.int (gI s 7 (ix ((x3 * (16 : Int32)) + x4))))]) (st' := [.int ((((x3 <<< ((16 : Int32) &&& 31)) ||| (x4 <<< ((8 : Int32) &&& 31))) ||| ((gI s 7 (ix ((x3 * (16 : Int32)) + x4))) <<< ((4 : Int32) &&& 31))) ||| x1), .int (gI s 0 20), .ref 8]) (s' := s) rfl ?_
          refine wpc_staI (a := 7) (N := 256) (s' := (sI s 8 (ix (gI s 0 20)) ((((x3 <<< ((16 : Int32) &&& 31)) ||| (x4 <<< ((8 : Int32) &&& 31))) ||| ((gI s 7 (ix ((x3 * (16 : Int32)) + x4))) <<< ((4 : Int32) &&& 31))) ||| x1))) rfl rfl (by decide) h567.1 rfl ?_
          have h569 := h567.2
          refine wpc_sl (n := 6) (c' := 14) (pc' := 117) (ls' := [some (.ref 0), some (.int x1), some (.int x2), some (.int x3), some (.int x4), some (.int ((x3 * (16 : Int32)) + x4)), some (.int (gI s 7 (ix ((x3 * (16 : Int32)) + x4))))]) (st' := []) (s' := (sI (sI s 8 (ix (gI s 0 20)) ((((x3 <<< ((16 : Int32) &&& 31)) ||| (x4 <<< ((8 : Int32) &&& 31))) ||| ((gI s 7 (ix ((x3 * (16 : Int32)) + x4))) <<< ((4 : Int32) &&& 31))) ||| x1)) 0 20 ((gI s 0 20) + (1 : Int32)))) rfl ?_
          exact wpc_lle (ls := [some (.ref 0), some (.int x1), some (.int x2), some (.int x3), some (.int x4), none, none]) ⟨rfl, rfl, rfl, rfl, rfl, trivial⟩ h569
        · have h568 := h564.2 hc566
          exact wpc_lle (ls := [some (.ref 0), some (.int x1), some (.int x2), some (.int x3), some (.int x4), none, none]) ⟨rfl, rfl, rfl, rfl, rfl, trivial⟩ h568
theorem c15_117 (x1 : Int32) (x2 : Int32) (x3 : Int32) (x4 : Int32) (s : St) (Q : St → Prop) (h : wpcV PP 15 cm15 14 16 [some (.ref 0), some (.int x1), some (.int x2), some (.int x3), some (.int (x4 + (1 : Int32))), none, none] [] s Q) : wpcV PP 15 cm15 14 117 [some (.ref 0), some (.int x1), some (.int x2), some (.int x3), some (.int x4), none, none] [] s Q := by
  refine wpc_sl (n := 2) (c' := 14) (pc' := 16) (ls' := [some (.ref 0), some (.int x1), some (.int x2), some (.int x3), some (.int (x4 + (1 : Int32))), none, none]) (st' := []) (s' := s) rfl ?_
  exact h
theorem c14_in  (s : St) (Q : St → Prop) (h : wpcV PP 14 cm14 14 2 [some (.ref 0), some (.int (0 : Int32))] [] s Q) : calV PP 14 14 [.ref 0] s Q := by
  refine cal_of (me := cm14) (ls := [some (.ref 0), none]) rfl (Nat.le_of_ble_eq_true rfl) rfl ?_
  refine wpc_sl (n := 2) (c' := 14) (pc' := 2) (ls' := [some (.ref 0), some (.int (0 : Int32))]) (st' := []) (s' := s) rfl ?_
  exact h
theorem c14_2 (x1 : Int32) (s : St) (Q : St → Prop) (h : ((x1 < (128 : Int32)) → inb 128 x1 ∧ wpcV PP 14 cm14 14 2 [some (.ref 0), some (.int (x1 + (1 : Int32)))] [] (sI s 7 (ix x1) (-1 : Int32)) Q) ∧ (¬ (x1 < (128 : Int32)) → wpcV PP 14 cm14 14 24 [some (.ref 0), some (.int (0 : Int32))] [] s Q)) : wpcV PP 14 cm14 14 2 [some (.ref 0), some (.int x1)] [] s Q := by
  refine wpc_sl (n := 2) (c' := 14) (pc' := 6) (ls' := [some (.ref 0), some (.int x1)]) (st' := [.int (128 : Int32), .int x1]) (s' := s) rfl ?_
  refine wpc_icmp (a := 22) (b := 9) rfl (by decide) rfl rfl (wpc_br (p := x1 < (128 : Int32)) ⟨fun hc541 => ?_, fun hc541 => ?_⟩)
  · have h542 := h.1 hc541
    refine wpc_sl (n := 4) (c' := 14) (pc' := 15) (ls' := [some (.ref 0), some (.int x1)]) (st' := [.int (-1 : Int32), .int x1, .ref 7]) (s' := s) rfl ?_
    refine wpc_staI (a := 6) (N := 128) (s' := (sI s 7 (ix x1) (-1 : Int32))) rfl rfl (by decide) h542.1 rfl ?_
    have h544 := h542.2
    refine wpc_sl (n := 2) (c' := 14) (pc' := 2) (ls' := [some (.ref 0), some (.int (x1 + (1 : Int32)))]) (st' := []) (s' := (sI s 7 (ix x1) (-1 : Int32))) rfl ?_
    exact h544
  · have h543 := h.2 hc541
    refine wpc_sl (n := 2) (c' := 14) (pc' := 24) (ls' := [some (.ref 0), some (.int (0 : Int32))]) (st' := []) (s' := s) rfl ?_
    exact h543
theorem c14_24 (x1 : Int32) (s : St) (Q : St → Prop) (h : ((x1 < (gI s 0 17)) → calV PP 15 14 [.ref 0, .int x1] s (fun s548 => wpcV PP 14 cm14 14 24 [some (.ref 0), some (.int (x1 + (1 : Int32)))] [] s548 Q)) ∧ (¬ (x1 < (gI s 0 17)) → Q s)) : wpcV PP 14 cm14 14 24 [some (.ref 0), some (.int x1)] [] s Q := by
  refine wpc_sl (n := 3) (c' := 14) (pc' := 29) (ls' := [some (.ref 0), some (.int x1)]) (st' := [.int (gI s 0 17), .int x1]) (s' := s) rfl ?_
  refine wpc_icmp (a := 43) (b := 32) rfl (by decide) rfl rfl (wpc_br (p := x1 < (gI s 0 17)) ⟨fun hc545 => ?_, fun hc545 => ?_⟩)
  · have h546 := h.1 hc545
    refine wpc_sl (n := 2) (c' := 14) (pc' := 34) (ls' := [some (.ref 0), some (.int x1)]) (st' := [.int x1, .ref 0]) (s' := s) rfl ?_
    refine wpc_callV (m' := 15) (me' := cm15) (as := [.int x1]) (r := []) rfl rfl rfl rfl rfl ⟨by decide, (by first | decide | exact Nat.le_of_ble_eq_true rfl), (by first | decide | exact Nat.le_of_ble_eq_true rfl), rfl⟩ (calV.mono h546 fun s548 h550 => ?_)
    refine wpc_sl (n := 2) (c' := 14) (pc' := 24) (ls' := [some (.ref 0), some (.int (x1 + (1 : Int32)))]) (st' := []) (s' := s548) rfl ?_
    exact h550
  · have h547 := h.2 hc545
    exact wpc_ret rfl rfl (fun q => absurd q (by decide)) rfl ⟨rfl, h547⟩
theorem c6_in  (s : St) (Q : Int32 → St → Prop) (h : (((gI s 0 24) = (0 : Int32)) → wpcI PP 6 cm6 14 16 [some (.ref 0), some (.int (0 : Int32))] [] (sI s 0 24 (1 : Int32)) Q) ∧ (¬ ((gI s 0 24) = (0 : Int32)) → Q (-1 : Int32) s)) : calI PP 6 14 [.ref 0] s Q := by
  refine cal_of (me := cm6) (ls := [some (.ref 0), none]) rfl (Nat.le_of_ble_eq_true rfl) rfl ?_
  refine wpc_sl (n := 2) (c' := 14) (pc' := 4) (ls' := [some (.ref 0), none]) (st' := [.int (gI s 0 24)]) (s' := s) rfl ?_
  refine wpc_if (a := 9) (b := 7) rfl (by decide) rfl rfl (wpc_br (p := (gI s 0 24) = (0 : Int32)) ⟨fun hc417 => ?_, fun hc417 => ?_⟩)
  · have h418 := h.1 hc417
    refine wpc_sl (n := 5) (c' := 14) (pc' := 16) (ls' := [some (.ref 0), some (.int (0 : Int32))]) (st' := []) (s' := (sI s 0 24 (1 : Int32))) rfl ?_
    exact h418
  · have h419 := h.2 hc417
    refine wpc_sl (n := 1) (c' := 14) (pc' := 8) (ls' := [some (.ref 0), none]) (st' := [.int (-1 : Int32)]) (s' := s) rfl ?_
    exact wpc_ret rfl rfl (fun q => absurd q (by decide)) rfl ⟨(-1 : Int32), rfl, h419⟩
theorem c6_16 (x1 : Int32) (s : St) (Q : Int32 → St → Prop) (h : ((x1 < (64 : Int32)) → calI PP 9 14 [.ref 0] s (fun v424 s423 => ((v424 = (0 : Int32)) → wpcI PP 6 cm6 14 38 [some (.ref 0), none] [] s423 Q) ∧ (¬ (v424 = (0 : Int32)) → wpcI PP 6 cm6 14 16 [some (.ref 0), some (.int (x1 + (1 : Int32)))] [] s423 Q))) ∧ (¬ (x1 < (64 : Int32)) → wpcI PP 6 cm6 14 38 [some (.ref 0), none] [] s Q)) : wpcI PP 6 cm6 14 16 [some (.ref 0), some (.int x1)] [] s Q := by
  refine wpc_sl (n := 2) (c' := 14) (pc' := 19) (ls' := [some (.ref 0), some (.int x1)]) (st' := [.int (64 : Int32), .int x1]) (s' := s) rfl ?_
  refine wpc_icmp (a := 38) (b := 22) rfl (by decide) rfl rfl (wpc_br (p := x1 < (64 : Int32)) ⟨fun hc420 => ?_, fun hc420 => ?_⟩)
  · have h421 := h.1 hc420
    refine wpc_sl (n := 1) (c' := 14) (pc' := 23) (ls' := [some (.ref 0), some (.int x1)]) (st' := [.ref 0]) (s' := s) rfl ?_
    refine wpc_callI (m' := 9) (me' := cm9) (as := []) (r := []) rfl rfl rfl rfl rfl ⟨by decide, (by first | decide | exact Nat.le_of_ble_eq_true rfl), (by first | decide | exact Nat.le_of_ble_eq_true rfl), rfl⟩ (calI.mono h421 fun v424 s423 h425 => ?_)
    refine wpc_if (a := 32) (b := 29) rfl (by decide) rfl rfl (wpc_br (p := v424 = (0 : Int32)) ⟨fun hc426 => ?_, fun hc426 => ?_⟩)
    · have h427 := h425.1 hc426
      refine wpc_sl (n := 1) (c' := 14) (pc' := 38) (ls' := [some (.ref 0), some (.int x1)]) (st' := []) (s' := s423) rfl ?_
      exact wpc_lle (ls := [some (.ref 0), none]) ⟨rfl, trivial⟩ h427
    · have h428 := h425.2 hc426
      refine wpc_sl (n := 2) (c' := 14) (pc' := 16) (ls' := [some (.ref 0), some (.int (x1 + (1 : Int32)))]) (st' := []) (s' := s423) rfl ?_
      exact h428
  · have h422 := h.2 hc420
    exact wpc_lle (ls := [some (.ref 0), none]) ⟨rfl, trivial⟩ h422
theorem c6_38  (s : St) (Q : Int32 → St → Prop) (h : wpcI PP 6 cm6 14 40 [some (.ref 0), some (.int (0 : Int32))] [] s Q) : wpcI PP 6 cm6 14 38 [some (.ref 0), none] [] s Q := by
  refine wpc_sl (n := 2) (c' := 14) (pc' := 40) (ls' := [some (.ref 0), some (.int (0 : Int32))]) (st' := []) (s' := s) rfl ?_
  exact h
theorem c6_40 (x1 : Int32) (s : St) (Q : Int32 → St → Prop) (h : ((x1 < (256 : Int32)) → calI PP 10 14 [.ref 0] s (fun v433 s432 => ((v433 = (0 : Int32)) → wpcI PP 6 cm6 14 63 [some (.ref 0), none] [] s432 Q) ∧ (¬ (v433 = (0 : Int32)) → wpcI PP 6 cm6 14 40 [some (.ref 0), some (.int (x1 + (1 : Int32)))] [] s432 Q))) ∧ (¬ (x1 < (256 : Int32)) → wpcI PP 6 cm6 14 63 [some (.ref 0), none] [] s Q)) : wpcI PP 6 cm6 14 40 [some (.ref 0), some (.int x1)] [] s Q := by
  refine wpc_sl (n := 2) (c' := 14) (pc' := 44) (ls' := [some (.ref 0), some (.int x1)]) (st' := [.int (256 : Int32), .int x1]) (s' := s) rfl ?_
  refine wpc_icmp (a := 63) (b := 47) rfl (by decide) rfl rfl (wpc_br (p := x1 < (256 : Int32)) ⟨fun hc429 => ?_, fun hc429 => ?_⟩)
  · have h430 := h.1 hc429
    refine wpc_sl (n := 1) (c' := 14) (pc' := 48) (ls' := [some (.ref 0), some (.int x1)]) (st' := [.ref 0]) (s' := s) rfl ?_
    refine wpc_callI (m' := 10) (me' := cm10) (as := []) (r := []) rfl rfl rfl rfl rfl ⟨by decide, (by first | decide | exact Nat.le_of_ble_eq_true rfl), (by first | decide | exact Nat.le_of_ble_eq_true rfl), rfl⟩ (calI.mono h430 fun v433 s432 h434 => ?_)
    refine wpc_if (a := 57) (b := 54) rfl (by decide) rfl rfl (wpc_br (p := v433 = (0 : Int32)) ⟨fun hc435 => ?_, fun hc435 => ?_⟩)
    · have h436 := h434.1 hc435
      refine wpc_sl (n := 1) (c' := 14) (pc' := 63) (ls' := [some (.ref 0), some (.int x1)]) (st' := []) (s' := s432) rfl ?_
      exact wpc_lle (ls := [some (.ref 0), none]) ⟨rfl, trivial⟩ h436
    · have h437 := h434.2 hc435
      refine wpc_sl (n := 2) (c' := 14) (pc' := 40) (ls' := [some (.ref 0), some (.int (x1 + (1 : Int32)))]) (st' := []) (s' := s432) rfl ?_
      exact h437
  · have h431 := h.2 hc429
    exact wpc_lle (ls := [some (.ref 0), none]) ⟨rfl, trivial⟩ h431
theorem c6_63  (s : St) (Q : Int32 → St → Prop) (h : inb 8 (0 : Int32) ∧ wpcI PP 6 cm6 14 72 [some (.ref 0), some (.int (0 : Int32))] [] (sI s 6 (ix (0 : Int32)) (1 : Int32)) Q) : wpcI PP 6 cm6 14 63 [some (.ref 0), none] [] s Q := by
  refine wpc_sl (n := 4) (c' := 14) (pc' := 69) (ls' := [some (.ref 0), none]) (st' := [.int (1 : Int32), .int (0 : Int32), .ref 6]) (s' := s) rfl ?_
  refine wpc_staI (a := 5) (N := 8) (s' := (sI s 6 (ix (0 : Int32)) (1 : Int32))) rfl rfl (by decide) h.1 rfl ?_
  have h438 := h.2
  refine wpc_sl (n := 2) (c' := 14) (pc' := 72) (ls' := [some (.ref 0), some (.int (0 : Int32))]) (st' := []) (s' := (sI s 6 (ix (0 : Int32)) (1 : Int32))) rfl ?_
  exact h438
theorem c6_72 (x1 : Int32) (s : St) (Q : Int32 → St → Prop) (h : ((x1 < (256 : Int32)) → calI PP 11 14 [.ref 0] s (fun v443 s442 => ((v443 = (0 : Int32)) → wpcI PP 6 cm6 14 95 [some (.ref 0), none] [] s442 Q) ∧ (¬ (v443 = (0 : Int32)) → wpcI PP 6 cm6 14 72 [some (.ref 0), some (.int (x1 + (1 : Int32)))] [] s442 Q))) ∧ (¬ (x1 < (256 : Int32)) → wpcI PP 6 cm6 14 95 [some (.ref 0), none] [] s Q)) : wpcI PP 6 cm6 14 72 [some (.ref 0), some (.int x1)] [] s Q := by
  refine wpc_sl (n := 2) (c' := 14) (pc' := 76) (ls' := [some (.ref 0), some (.int x1)]) (st' := [.int (256 : Int32), .int x1]) (s' := s) rfl ?_
  refine wpc_icmp (a := 95) (b := 79) rfl (by decide) rfl rfl (wpc_br (p := x1 < (256 : Int32)) ⟨fun hc439 => ?_, fun hc439 => ?_⟩)
  · have h440 := h.1 hc439
    refine wpc_sl (n := 1) (c' := 14) (pc' := 80) (ls' := [some (.ref 0), some (.int x1)]) (st' := [.ref 0]) (s' := s) rfl ?_
    refine wpc_callI (m' := 11) (me' := cm11) (as := []) (r := []) rfl rfl rfl rfl rfl ⟨by decide, (by first | decide | exact Nat.le_of_ble_eq_true rfl), (by first | decide | exact Nat.le_of_ble_eq_true rfl), rfl⟩ (calI.mono h440 fun v443 s442 h444 => ?_)
    refine wpc_if (a := 89) (b := 86) rfl (by decide) rfl rfl (wpc_br (p := v443 = (0 : Int32)) ⟨fun hc445 => ?_, fun hc445 => ?_⟩)
    · have h446 := h444.1 hc445
      refine wpc_sl (n := 1) (c' := 14) (pc' := 95) (ls' := [some (.ref 0), some (.int x1)]) (st' := []) (s' := s442) rfl ?_
      exact wpc_lle (ls := [some (.ref 0), none]) ⟨rfl, trivial⟩ h446
    · have h447 := h444.2 hc445
      refine wpc_sl (n := 2) (c' := 14) (pc' := 72) (ls' := [some (.ref 0), some (.int (x1 + (1 : Int32)))]) (st' := []) (s' := s442) rfl ?_
      exact h447
  · have h441 := h.2 hc439
    exact wpc_lle (ls := [some (.ref 0), none]) ⟨rfl, trivial⟩ h441
theorem c6_95  (s : St) (Q : Int32 → St → Prop) (h : calV PP 14 14 [.ref 0] s (fun s448 => Q (gI s448 0 20) s448)) : wpcI PP 6 cm6 14 95 [some (.ref 0), none] [] s Q := by
  refine wpc_sl (n := 1) (c' := 14) (pc' := 96) (ls' := [some (.ref 0), none]) (st' := [.ref 0]) (s' := s) rfl ?_
  refine wpc_callV (m' := 14) (me' := cm14) (as := []) (r := []) rfl rfl rfl rfl rfl ⟨by decide, (by first | decide | exact Nat.le_of_ble_eq_true rfl), (by first | decide | exact Nat.le_of_ble_eq_true rfl), rfl⟩ (calV.mono h fun s448 h450 => ?_)
  refine wpc_sl (n := 2) (c' := 14) (pc' := 103) (ls' := [some (.ref 0), none]) (st' := [.int (gI s448 0 20)]) (s' := s448) rfl ?_
  exact wpc_ret rfl rfl (fun q => absurd q (by decide)) rfl ⟨(gI s448 0 20), rfl, h450⟩
theorem c21_in (a1 : Int32) (s : St) (Q : Int32 → St → Prop) (h : (((gI s 0 25) = (0 : Int32)) → (((gI s 0 18) < (32 : Int32)) → ((a1 < (1 : Int32)) → Q (0 : Int32) s) ∧ (¬ (a1 < (1 : Int32)) → (((gI s 0 16) < a1) → Q (0 : Int32) s) ∧ (¬ ((gI s 0 16) < a1) → inb 32 (gI s 0 18) ∧ Q (1 : Int32) (sI (sI s 9 (ix (gI s 0 18)) a1) 0 18 ((gI s 0 18) + (1 : Int32)))))) ∧ (¬ ((gI s 0 18) < (32 : Int32)) → Q (0 : Int32) s)) ∧ (¬ ((gI s 0 25) = (0 : Int32)) → Q (0 : Int32) s)) : calI PP 21 14 [.ref 0, .int a1] s Q := by
  refine cal_of (me := cm21) (ls := [some (.ref 0), some (.int a1)]) rfl (Nat.le_of_ble_eq_true rfl) rfl ?_
  refine wpc_sl (n := 2) (c' := 14) (pc' := 4) (ls' := [some (.ref 0), some (.int a1)]) (st' := [.int (gI s 0 25)]) (s' := s) rfl ?_
  refine wpc_if (a := 16) (b := 7) rfl (by decide) rfl rfl (wpc_br (p := (gI s 0 25) = (0 : Int32)) ⟨fun hc581 => ?_, fun hc581 => ?_⟩)
  · have h582 := h.1 hc581
    refine wpc_sl (n := 3) (c' := 14) (pc' := 13) (ls' := [some (.ref 0), some (.int a1)]) (st' := [.int (32 : Int32), .int (gI s 0 18)]) (s' := s) rfl ?_
    refine wpc_icmp (a := 18) (b := 16) rfl (by decide) rfl rfl (wpc_br (p := (gI s 0 18) < (32 : Int32)) ⟨fun hc584 => ?_, fun hc584 => ?_⟩)
    · have h585 := h582.1 hc584
      refine wpc_sl (n := 2) (c' := 14) (pc' := 20) (ls' := [some (.ref 0), some (.int a1)]) (st' := [.int (1 : Int32), .int a1]) (s' := s) rfl ?_
      refine wpc_icmp (a := 31) (b := 23) rfl (by decide) rfl rfl (wpc_br (p := a1 < (1 : Int32)) ⟨fun hc587 => ?_, fun hc587 => ?_⟩)
      · have h588 := h585.1 hc587
        refine wpc_sl (n := 1) (c' := 14) (pc' := 32) (ls' := [some (.ref 0), some (.int a1)]) (st' := [.int (0 : Int32)]) (s' := s) rfl ?_
        exact wpc_ret rfl rfl (fun q => absurd q (by decide)) rfl ⟨(0 : Int32), rfl, h588⟩
      · have h589 := h585.2 hc587
        refine wpc_sl (n := 3) (c' := 14) (pc' := 28) (ls' := [some (.ref 0), some (.int a1)]) (st' := [.int (gI s 0 16), .int a1]) (s' := s) rfl ?_
        refine wpc_icmp (a := 33) (b := 31) rfl (by decide) rfl rfl (wpc_br (p := (gI s 0 16) < a1) ⟨fun hc590 => ?_, fun hc590 => ?_⟩)
        · have h591 := h589.1 hc590
          refine wpc_sl (n := 1) (c' := 14) (pc' := 32) (ls' := [some (.ref 0), some (.int a1)]) (st' := [.int (0 : Int32)]) (s' := s) rfl ?_
          exact wpc_ret rfl rfl (fun q => absurd q (by decide)) rfl ⟨(0 : Int32), rfl, h591⟩
        · have h592 := h589.2 hc590
          refine wpc_sl (n := 5) (c' := 14) (pc' := 42) (ls' := [some (.ref 0), some (.int a1)]) (st' := [.int a1, .int (gI s 0 18), .ref 9]) (s' := s) rfl ?_
          refine wpc_staI (a := 8) (N := 32) (s' := (sI s 9 (ix (gI s 0 18)) a1)) rfl rfl (by decide) h592.1 rfl ?_
          have h593 := h592.2
          refine wpc_sl (n := 7) (c' := 14) (pc' := 54) (ls' := [some (.ref 0), some (.int a1)]) (st' := [.int (1 : Int32)]) (s' := (sI (sI s 9 (ix (gI s 0 18)) a1) 0 18 ((gI s 0 18) + (1 : Int32)))) rfl ?_
          exact wpc_ret rfl rfl (fun q => absurd q (by decide)) rfl ⟨(1 : Int32), rfl, h593⟩
    · have h586 := h582.2 hc584
      refine wpc_sl (n := 1) (c' := 14) (pc' := 17) (ls' := [some (.ref 0), some (.int a1)]) (st' := [.int (0 : Int32)]) (s' := s) rfl ?_
      exact wpc_ret rfl rfl (fun q => absurd q (by decide)) rfl ⟨(0 : Int32), rfl, h586⟩
  · have h583 := h.2 hc581
    refine wpc_sl (n := 1) (c' := 14) (pc' := 17) (ls' := [some (.ref 0), some (.int a1)]) (st' := [.int (0 : Int32)]) (s' := s) rfl ?_
    exact wpc_ret rfl rfl (fun q => absurd q (by decide)) rfl ⟨(0 : Int32), rfl, h583⟩
theorem l3r1W2_in (N : Nat) (sg : Nat → Int32) (a1 : Int32) (a2 : Int32) (s : St) (t : St) (Q : Int32 → Wd → Prop) (h : ((a1 = (0 : Int32)) → calI PP 3 14 [.ref 0, .int (3 : Int32)] s (fun v144 s143 => ((v144 = (-1 : Int32)) → Q (1 : Int32) (W2 s143 t)) ∧ (¬ (v144 = (-1 : Int32)) → Q (0 : Int32) (W2 s143 t)))) ∧ (¬ (a1 = (0 : Int32)) → ((a1 = (1 : Int32)) → calI PP 3 14 [.ref 0, .int (-1 : Int32)] s (fun v153 s152 => ((v153 = (-1 : Int32)) → Q (1 : Int32) (W2 s152 t)) ∧ (¬ (v153 = (-1 : Int32)) → Q (0 : Int32) (W2 s152 t)))) ∧ (¬ (a1 = (1 : Int32)) → ((a1 = (2 : Int32)) → calI PP 4 14 [.ref 0, .int (0 : Int32)] s (fun v162 s161 => ((v162 = (0 : Int32)) → Q (1 : Int32) (W2 s161 t)) ∧ (¬ (v162 = (0 : Int32)) → Q (0 : Int32) (W2 s161 t)))) ∧ (¬ (a1 = (2 : Int32)) → ((a1 = (3 : Int32)) → calI PP 4 14 [.ref 0, .int (5 : Int32)] s (fun v171 s170 => ((v171 = (0 : Int32)) → Q (1 : Int32) (W2 s170 t)) ∧ (¬ (v171 = (0 : Int32)) → Q (0 : Int32) (W2 s170 t)))) ∧ (¬ (a1 = (3 : Int32)) → ((a1 = (4 : Int32)) → calI PP 4 14 [.ref 0, .int (19 : Int32)] s (fun v180 s179 => ((v180 = (0 : Int32)) → Q (1 : Int32) (W2 s179 t)) ∧ (¬ (v180 = (0 : Int32)) → Q (0 : Int32) (W2 s179 t)))) ∧ (¬ (a1 = (4 : Int32)) → ((a1 = (5 : Int32)) → ((a2 = (0 : Int32)) → calI PP 22 14 [.ref 0] s (fun v192 s191 => ((v192 = (-1 : Int32)) → Q (1 : Int32) (W2 s191 t)) ∧ (¬ (v192 = (-1 : Int32)) → Q (0 : Int32) (W2 s191 t)))) ∧ (¬ (a2 = (0 : Int32)) → calI PP 6 14 [.ref 0] s (fun v198 s197 => ((v198 = (-1 : Int32)) → Q (1 : Int32) (W2 s197 t)) ∧ (¬ (v198 = (-1 : Int32)) → Q (0 : Int32) (W2 s197 t))))) ∧ (¬ (a1 = (5 : Int32)) → ((a1 = (6 : Int32)) → calI PP 21 14 [.ref 0, .int (0 : Int32)] s (fun v207 s206 => ((v207 = (0 : Int32)) → Q (1 : Int32) (W2 s206 t)) ∧ (¬ (v207 = (0 : Int32)) → Q (0 : Int32) (W2 s206 t)))) ∧ (¬ (a1 = (6 : Int32)) → ((a1 = (7 : Int32)) → calI PP 21 14 [.ref 0, .int (5 : Int32)] s (fun v216 s215 => ((v216 = (0 : Int32)) → Q (1 : Int32) (W2 s215 t)) ∧ (¬ (v216 = (0 : Int32)) → Q (0 : Int32) (W2 s215 t)))) ∧ (¬ (a1 = (7 : Int32)) → Q (1 : Int32) (W2 s t)))))))))) : lalI PP QQ (some (N, sg)) 3 [.ref 1, .int a1, .int a2] (W2 s t) Q := by
  refine lal_of (me := lm3) (ls := [some (.ref 1), some (.int a1), some (.int a2)]) rfl (Nat.le_of_ble_eq_true rfl) rfl ?_
  refine wpl_sl (n := 1) (pc' := 1) (ls' := [some (.ref 1), some (.int a1), some (.int a2)]) (st' := [.int a1]) rfl ?_
  refine wpl_if (a := 19) (b := 4) rfl (by decide) rfl rfl (wpl_br (p := a1 = (0 : Int32)) ⟨fun hc140 => ?_, fun hc140 => ?_⟩)
  · have h141 := h.1 hc140
    refine wpl_sl (n := 2) (pc' := 6) (ls' := [some (.ref 1), some (.int a1), some (.int a2)]) (st' := [.int (3 : Int32), .ref 1]) rfl ?_
    refine wpl_v2a (m' := 3) (me' := cm3) (as := [.int (3 : Int32)]) (r := []) rfl rfl rfl rfl rfl ⟨by decide, (by first | decide | exact Nat.le_of_ble_eq_true rfl), (by first | decide | exact Nat.le_of_ble_eq_true rfl), rfl⟩ (cal_I (calI.mono h141 fun v144 s143 h145 => ?_))
    refine wpl_sl (n := 1) (pc' := 10) (ls' := [some (.ref 1), some (.int a1), some (.int a2)]) (st' := [.int (-1 : Int32), .int v144]) rfl ?_
    refine wpl_icmp (a := 17) (b := 13) rfl (by decide) rfl rfl (wpl_br (p := v144 = (-1 : Int32)) ⟨fun hc146 => ?_, fun hc146 => ?_⟩)
    · have h147 := h145.1 hc146
      refine wpl_sl (n := 2) (pc' := 18) (ls' := [some (.ref 1), some (.int a1), some (.int a2)]) (st' := [.int (1 : Int32)]) rfl ?_
      exact wpl_ret rfl rfl rfl ⟨(1 : Int32), rfl, h147⟩
    · have h148 := h145.2 hc146
      refine wpl_sl (n := 1) (pc' := 18) (ls' := [some (.ref 1), some (.int a1), some (.int a2)]) (st' := [.int (0 : Int32)]) rfl ?_
      exact wpl_ret rfl rfl rfl ⟨(0 : Int32), rfl, h148⟩
  · have h142 := h.2 hc140
    refine wpl_sl (n := 2) (pc' := 21) (ls' := [some (.ref 1), some (.int a1), some (.int a2)]) (st' := [.int (1 : Int32), .int a1]) rfl ?_
    refine wpl_icmp (a := 39) (b := 24) rfl (by decide) rfl rfl (wpl_br (p := a1 = (1 : Int32)) ⟨fun hc149 => ?_, fun hc149 => ?_⟩)
    · have h150 := h142.1 hc149
      refine wpl_sl (n := 2) (pc' := 26) (ls' := [some (.ref 1), some (.int a1), some (.int a2)]) (st' := [.int (-1 : Int32), .ref 1]) rfl ?_
      refine wpl_v2a (m' := 3) (me' := cm3) (as := [.int (-1 : Int32)]) (r := []) rfl rfl rfl rfl rfl ⟨by decide, (by first | decide | exact Nat.le_of_ble_eq_true rfl), (by first | decide | exact Nat.le_of_ble_eq_true rfl), rfl⟩ (cal_I (calI.mono h150 fun v153 s152 h154 => ?_))
      refine wpl_sl (n := 1) (pc' := 30) (ls' := [some (.ref 1), some (.int a1), some (.int a2)]) (st' := [.int (-1 : Int32), .int v153]) rfl ?_
      refine wpl_icmp (a := 37) (b := 33) rfl (by decide) rfl rfl (wpl_br (p := v153 = (-1 : Int32)) ⟨fun hc155 => ?_, fun hc155 => ?_⟩)
      · have h156 := h154.1 hc155
        refine wpl_sl (n := 2) (pc' := 38) (ls' := [some (.ref 1), some (.int a1), some (.int a2)]) (st' := [.int (1 : Int32)]) rfl ?_
        exact wpl_ret rfl rfl rfl ⟨(1 : Int32), rfl, h156⟩
      · have h157 := h154.2 hc155
        refine wpl_sl (n := 1) (pc' := 38) (ls' := [some (.ref 1), some (.int a1), some (.int a2)]) (st' := [.int (0 : Int32)]) rfl ?_
        exact wpl_ret rfl rfl rfl ⟨(0 : Int32), rfl, h157⟩
    · have h151 := h142.2 hc149
      refine wpl_sl (n := 2) (pc' := 41) (ls' := [some (.ref 1), some (.int a1), some (.int a2)]) (st' := [.int (2 : Int32), .int a1]) rfl ?_
      refine wpl_icmp (a := 58) (b := 44) rfl (by decide) rfl rfl (wpl_br (p := a1 = (2 : Int32)) ⟨fun hc158 => ?_, fun hc158 => ?_⟩)
      · have h159 := h151.1 hc158
        refine wpl_sl (n := 2) (pc' := 46) (ls' := [some (.ref 1), some (.int a1), some (.int a2)]) (st' := [.int (0 : Int32), .ref 1]) rfl ?_
        refine wpl_v2a (m' := 4) (me' := cm4) (as := [.int (0 : Int32)]) (r := []) rfl rfl rfl rfl rfl ⟨by decide, (by first | decide | exact Nat.le_of_ble_eq_true rfl), (by first | decide | exact Nat.le_of_ble_eq_true rfl), rfl⟩ (cal_I (calI.mono h159 fun v162 s161 h163 => ?_))
        refine wpl_if (a := 56) (b := 52) rfl (by decide) rfl rfl (wpl_br (p := v162 = (0 : Int32)) ⟨fun hc164 => ?_, fun hc164 => ?_⟩)
        · have h165 := h163.1 hc164
          refine wpl_sl (n := 2) (pc' := 57) (ls' := [some (.ref 1), some (.int a1), some (.int a2)]) (st' := [.int (1 : Int32)]) rfl ?_
          exact wpl_ret rfl rfl rfl ⟨(1 : Int32), rfl, h165⟩
        · have h166 := h163.2 hc164
          refine wpl_sl (n := 1) (pc' := 57) (ls' := [some (.ref 1), some (.int a1), some (.int a2)]) (st' := [.int (0 : Int32)]) rfl ?_
          exact wpl_ret rfl rfl rfl ⟨(0 : Int32), rfl, h166⟩
      · have h160 := h151.2 hc158
        refine wpl_sl (n := 2) (pc' := 60) (ls' := [some (.ref 1), some (.int a1), some (.int a2)]) (st' := [.int (3 : Int32), .int a1]) rfl ?_
        refine wpl_icmp (a := 77) (b := 63) rfl (by decide) rfl rfl (wpl_br (p := a1 = (3 : Int32)) ⟨fun hc167 => ?_, fun hc167 => ?_⟩)
        · have h168 := h160.1 hc167
          refine wpl_sl (n := 2) (pc' := 65) (ls' := [some (.ref 1), some (.int a1), some (.int a2)]) (st' := [.int (5 : Int32), .ref 1]) rfl ?_
          refine wpl_v2a (m' := 4) (me' := cm4) (as := [.int (5 : Int32)]) (r := []) rfl rfl rfl rfl rfl ⟨by decide, (by first | decide | exact Nat.le_of_ble_eq_true rfl), (by first | decide | exact Nat.le_of_ble_eq_true rfl), rfl⟩ (cal_I (calI.mono h168 fun v171 s170 h172 => ?_))
          refine wpl_if (a := 75) (b := 71) rfl (by decide) rfl rfl (wpl_br (p := v171 = (0 : Int32)) ⟨fun hc173 => ?_, fun hc173 => ?_⟩)
          · have h174 := h172.1 hc173
            refine wpl_sl (n := 2) (pc' := 76) (ls' := [some (.ref 1), some (.int a1), some (.int a2)]) (st' := [.int (1 : Int32)]) rfl ?_
            exact wpl_ret rfl rfl rfl ⟨(1 : Int32), rfl, h174⟩
          · have h175 := h172.2 hc173
            refine wpl_sl (n := 1) (pc' := 76) (ls' := [some (.ref 1), some (.int a1), some (.int a2)]) (st' := [.int (0 : Int32)]) rfl ?_
            exact wpl_ret rfl rfl rfl ⟨(0 : Int32), rfl, h175⟩
        · have h169 := h160.2 hc167
          refine wpl_sl (n := 2) (pc' := 79) (ls' := [some (.ref 1), some (.int a1), some (.int a2)]) (st' := [.int (4 : Int32), .int a1]) rfl ?_
          refine wpl_icmp (a := 97) (b := 82) rfl (by decide) rfl rfl (wpl_br (p := a1 = (4 : Int32)) ⟨fun hc176 => ?_, fun hc176 => ?_⟩)
          · have h177 := h169.1 hc176
            refine wpl_sl (n := 2) (pc' := 85) (ls' := [some (.ref 1), some (.int a1), some (.int a2)]) (st' := [.int (19 : Int32), .ref 1]) rfl ?_
            refine wpl_v2a (m' := 4) (me' := cm4) (as := [.int (19 : Int32)]) (r := []) rfl rfl rfl rfl rfl ⟨by decide, (by first | decide | exact Nat.le_of_ble_eq_true rfl), (by first | decide | exact Nat.le_of_ble_eq_true rfl), rfl⟩ (cal_I (calI.mono h177 fun v180 s179 h181 => ?_))
            refine wpl_if (a := 95) (b := 91) rfl (by decide) rfl rfl (wpl_br (p := v180 = (0 : Int32)) ⟨fun hc182 => ?_, fun hc182 => ?_⟩)
            · have h183 := h181.1 hc182
              refine wpl_sl (n := 2) (pc' := 96) (ls' := [some (.ref 1), some (.int a1), some (.int a2)]) (st' := [.int (1 : Int32)]) rfl ?_
              exact wpl_ret rfl rfl rfl ⟨(1 : Int32), rfl, h183⟩
            · have h184 := h181.2 hc182
              refine wpl_sl (n := 1) (pc' := 96) (ls' := [some (.ref 1), some (.int a1), some (.int a2)]) (st' := [.int (0 : Int32)]) rfl ?_
              exact wpl_ret rfl rfl rfl ⟨(0 : Int32), rfl, h184⟩
          · have h178 := h169.2 hc176
            refine wpl_sl (n := 2) (pc' := 99) (ls' := [some (.ref 1), some (.int a1), some (.int a2)]) (st' := [.int (5 : Int32), .int a1]) rfl ?_
            refine wpl_icmp (a := 136) (b := 102) rfl (by decide) rfl rfl (wpl_br (p := a1 = (5 : Int32)) ⟨fun hc185 => ?_, fun hc185 => ?_⟩)
            · have h186 := h178.1 hc185
              refine wpl_sl (n := 1) (pc' := 103) (ls' := [some (.ref 1), some (.int a1), some (.int a2)]) (st' := [.int a2]) rfl ?_
              refine wpl_if (a := 122) (b := 106) rfl (by decide) rfl rfl (wpl_br (p := a2 = (0 : Int32)) ⟨fun hc188 => ?_, fun hc188 => ?_⟩)
              · have h189 := h186.1 hc188
                refine wpl_sl (n := 1) (pc' := 123) (ls' := [some (.ref 1), some (.int a1), some (.int a2)]) (st' := [.ref 1]) rfl ?_
                refine wpl_v2a (m' := 22) (me' := cm22) (as := []) (r := []) rfl rfl rfl rfl rfl ⟨by decide, (by first | decide | exact Nat.le_of_ble_eq_true rfl), (by first | decide | exact Nat.le_of_ble_eq_true rfl), rfl⟩ (cal_I (calI.mono h189 fun v192 s191 h193 => ?_))
                refine wpl_sl (n := 1) (pc' := 127) (ls' := [some (.ref 1), some (.int a1), some (.int a2)]) (st' := [.int (-1 : Int32), .int v192]) rfl ?_
                refine wpl_icmp (a := 134) (b := 130) rfl (by decide) rfl rfl (wpl_br (p := v192 = (-1 : Int32)) ⟨fun hc194 => ?_, fun hc194 => ?_⟩)
                · have h195 := h193.1 hc194
                  refine wpl_sl (n := 2) (pc' := 135) (ls' := [some (.ref 1), some (.int a1), some (.int a2)]) (st' := [.int (1 : Int32)]) rfl ?_
                  exact wpl_ret rfl rfl rfl ⟨(1 : Int32), rfl, h195⟩
                · have h196 := h193.2 hc194
                  refine wpl_sl (n := 1) (pc' := 135) (ls' := [some (.ref 1), some (.int a1), some (.int a2)]) (st' := [.int (0 : Int32)]) rfl ?_
                  exact wpl_ret rfl rfl rfl ⟨(0 : Int32), rfl, h196⟩
              · have h190 := h186.2 hc188
                refine wpl_sl (n := 1) (pc' := 107) (ls' := [some (.ref 1), some (.int a1), some (.int a2)]) (st' := [.ref 1]) rfl ?_
                refine wpl_v2a (m' := 6) (me' := cm6) (as := []) (r := []) rfl rfl rfl rfl rfl ⟨by decide, (by first | decide | exact Nat.le_of_ble_eq_true rfl), (by first | decide | exact Nat.le_of_ble_eq_true rfl), rfl⟩ (cal_I (calI.mono h190 fun v198 s197 h199 => ?_))
                refine wpl_sl (n := 1) (pc' := 111) (ls' := [some (.ref 1), some (.int a1), some (.int a2)]) (st' := [.int (-1 : Int32), .int v198]) rfl ?_
                refine wpl_icmp (a := 118) (b := 114) rfl (by decide) rfl rfl (wpl_br (p := v198 = (-1 : Int32)) ⟨fun hc200 => ?_, fun hc200 => ?_⟩)
                · have h201 := h199.1 hc200
                  refine wpl_sl (n := 2) (pc' := 135) (ls' := [some (.ref 1), some (.int a1), some (.int a2)]) (st' := [.int (1 : Int32)]) rfl ?_
                  exact wpl_ret rfl rfl rfl ⟨(1 : Int32), rfl, h201⟩
                · have h202 := h199.2 hc200
                  refine wpl_sl (n := 2) (pc' := 135) (ls' := [some (.ref 1), some (.int a1), some (.int a2)]) (st' := [.int (0 : Int32)]) rfl ?_
                  exact wpl_ret rfl rfl rfl ⟨(0 : Int32), rfl, h202⟩
            · have h187 := h178.2 hc185
              refine wpl_sl (n := 2) (pc' := 139) (ls' := [some (.ref 1), some (.int a1), some (.int a2)]) (st' := [.int (6 : Int32), .int a1]) rfl ?_
              refine wpl_icmp (a := 156) (b := 142) rfl (by decide) rfl rfl (wpl_br (p := a1 = (6 : Int32)) ⟨fun hc203 => ?_, fun hc203 => ?_⟩)
              · have h204 := h187.1 hc203
                refine wpl_sl (n := 2) (pc' := 144) (ls' := [some (.ref 1), some (.int a1), some (.int a2)]) (st' := [.int (0 : Int32), .ref 1]) rfl ?_
                refine wpl_v2a (m' := 21) (me' := cm21) (as := [.int (0 : Int32)]) (r := []) rfl rfl rfl rfl rfl ⟨by decide, (by first | decide | exact Nat.le_of_ble_eq_true rfl), (by first | decide | exact Nat.le_of_ble_eq_true rfl), rfl⟩ (cal_I (calI.mono h204 fun v207 s206 h208 => ?_))
                refine wpl_if (a := 154) (b := 150) rfl (by decide) rfl rfl (wpl_br (p := v207 = (0 : Int32)) ⟨fun hc209 => ?_, fun hc209 => ?_⟩)
                · have h210 := h208.1 hc209
                  refine wpl_sl (n := 2) (pc' := 155) (ls' := [some (.ref 1), some (.int a1), some (.int a2)]) (st' := [.int (1 : Int32)]) rfl ?_
                  exact wpl_ret rfl rfl rfl ⟨(1 : Int32), rfl, h210⟩
                · have h211 := h208.2 hc209
                  refine wpl_sl (n := 1) (pc' := 155) (ls' := [some (.ref 1), some (.int a1), some (.int a2)]) (st' := [.int (0 : Int32)]) rfl ?_
                  exact wpl_ret rfl rfl rfl ⟨(0 : Int32), rfl, h211⟩
              · have h205 := h187.2 hc203
                refine wpl_sl (n := 2) (pc' := 159) (ls' := [some (.ref 1), some (.int a1), some (.int a2)]) (st' := [.int (7 : Int32), .int a1]) rfl ?_
                refine wpl_icmp (a := 176) (b := 162) rfl (by decide) rfl rfl (wpl_br (p := a1 = (7 : Int32)) ⟨fun hc212 => ?_, fun hc212 => ?_⟩)
                · have h213 := h205.1 hc212
                  refine wpl_sl (n := 2) (pc' := 164) (ls' := [some (.ref 1), some (.int a1), some (.int a2)]) (st' := [.int (5 : Int32), .ref 1]) rfl ?_
                  refine wpl_v2a (m' := 21) (me' := cm21) (as := [.int (5 : Int32)]) (r := []) rfl rfl rfl rfl rfl ⟨by decide, (by first | decide | exact Nat.le_of_ble_eq_true rfl), (by first | decide | exact Nat.le_of_ble_eq_true rfl), rfl⟩ (cal_I (calI.mono h213 fun v216 s215 h217 => ?_))
                  refine wpl_if (a := 174) (b := 170) rfl (by decide) rfl rfl (wpl_br (p := v216 = (0 : Int32)) ⟨fun hc218 => ?_, fun hc218 => ?_⟩)
                  · have h219 := h217.1 hc218
                    refine wpl_sl (n := 2) (pc' := 175) (ls' := [some (.ref 1), some (.int a1), some (.int a2)]) (st' := [.int (1 : Int32)]) rfl ?_
                    exact wpl_ret rfl rfl rfl ⟨(1 : Int32), rfl, h219⟩
                  · have h220 := h217.2 hc218
                    refine wpl_sl (n := 1) (pc' := 175) (ls' := [some (.ref 1), some (.int a1), some (.int a2)]) (st' := [.int (0 : Int32)]) rfl ?_
                    exact wpl_ret rfl rfl rfl ⟨(0 : Int32), rfl, h220⟩
                · have h214 := h205.2 hc212
                  refine wpl_sl (n := 1) (pc' := 177) (ls' := [some (.ref 1), some (.int a1), some (.int a2)]) (st' := [.int (1 : Int32)]) rfl ?_
                  exact wpl_ret rfl rfl rfl ⟨(1 : Int32), rfl, h214⟩
theorem c19_in (a1 : Int32) (a2 : Int32) (s : St) (Q : Int32 → St → Prop) (h : (((gI s 0 24) = (0 : Int32)) → Q (-1 : Int32) s) ∧ (¬ ((gI s 0 24) = (0 : Int32)) → ((a1 < (0 : Int32)) → Q (-1 : Int32) s) ∧ (¬ (a1 < (0 : Int32)) → ((a1 < (gI s 0 15)) → ((a2 < (0 : Int32)) → Q (-1 : Int32) s) ∧ (¬ (a2 < (0 : Int32)) → (((gI s 0 16) < a2) → Q (-1 : Int32) s) ∧ (¬ ((gI s 0 16) < a2) → inb 128 ((a1 * (16 : Int32)) + a2) ∧ Q (gI s 7 (ix ((a1 * (16 : Int32)) + a2))) s))) ∧ (¬ (a1 < (gI s 0 15)) → Q (-1 : Int32) s)))) : calI PP 19 14 [.ref 0, .int a1, .int a2] s Q := by
  refine cal_of (me := cm19) (ls := [some (.ref 0), some (.int a1), some (.int a2)]) rfl (Nat.le_of_ble_eq_true rfl) rfl ?_
  refine wpc_sl (n := 2) (c' := 14) (pc' := 4) (ls' := [some (.ref 0), some (.int a1), some (.int a2)]) (st' := [.int (gI s 0 24)]) (s' := s) rfl ?_
  refine wpc_if (a := 31) (b := 7) rfl (by decide) rfl rfl (wpc_br (p := (gI s 0 24) = (0 : Int32)) ⟨fun hc708 => ?_, fun hc708 => ?_⟩)
  · have h709 := h.1 hc708
    refine wpc_sl (n := 1) (c' := 14) (pc' := 32) (ls' := [some (.ref 0), some (.int a1), some (.int a2)]) (st' := [.int (-1 : Int32)]) (s' := s) rfl ?_
    exact wpc_ret rfl rfl (fun q => absurd q (by decide)) rfl ⟨(-1 : Int32), rfl, h709⟩
  · have h710 := h.2 hc708
    refine wpc_sl (n := 1) (c' := 14) (pc' := 8) (ls' := [some (.ref 0), some (.int a1), some (.int a2)]) (st' := [.int a1]) (s' := s) rfl ?_
    refine wpc_if (a := 31) (b := 11) rfl (by decide) rfl rfl (wpc_br (p := a1 < (0 : Int32)) ⟨fun hc711 => ?_, fun hc711 => ?_⟩)
    · have h712 := h710.1 hc711
      refine wpc_sl (n := 1) (c' := 14) (pc' := 32) (ls' := [some (.ref 0), some (.int a1), some (.int a2)]) (st' := [.int (-1 : Int32)]) (s' := s) rfl ?_
      exact wpc_ret rfl rfl (fun q => absurd q (by decide)) rfl ⟨(-1 : Int32), rfl, h712⟩
    · have h713 := h710.2 hc711
      refine wpc_sl (n := 3) (c' := 14) (pc' := 16) (ls' := [some (.ref 0), some (.int a1), some (.int a2)]) (st' := [.int (gI s 0 15), .int a1]) (s' := s) rfl ?_
      refine wpc_icmp (a := 31) (b := 19) rfl (by decide) rfl rfl (wpc_br (p := a1 < (gI s 0 15)) ⟨fun hc714 => ?_, fun hc714 => ?_⟩)
      · have h715 := h713.1 hc714
        refine wpc_sl (n := 1) (c' := 14) (pc' := 20) (ls' := [some (.ref 0), some (.int a1), some (.int a2)]) (st' := [.int a2]) (s' := s) rfl ?_
        refine wpc_if (a := 31) (b := 23) rfl (by decide) rfl rfl (wpc_br (p := a2 < (0 : Int32)) ⟨fun hc717 => ?_, fun hc717 => ?_⟩)
        · have h718 := h715.1 hc717
          refine wpc_sl (n := 1) (c' := 14) (pc' := 32) (ls' := [some (.ref 0), some (.int a1), some (.int a2)]) (st' := [.int (-1 : Int32)]) (s' := s) rfl ?_
          exact wpc_ret rfl rfl (fun q => absurd q (by decide)) rfl ⟨(-1 : Int32), rfl, h718⟩
        · have h719 := h715.2 hc717
          refine wpc_sl (n := 3) (c' := 14) (pc' := 28) (ls' := [some (.ref 0), some (.int a1), some (.int a2)]) (st' := [.int (gI s 0 16), .int a2]) (s' := s) rfl ?_
          refine wpc_icmp (a := 33) (b := 31) rfl (by decide) rfl rfl (wpc_br (p := (gI s 0 16) < a2) ⟨fun hc720 => ?_, fun hc720 => ?_⟩)
          · have h721 := h719.1 hc720
            refine wpc_sl (n := 1) (c' := 14) (pc' := 32) (ls' := [some (.ref 0), some (.int a1), some (.int a2)]) (st' := [.int (-1 : Int32)]) (s' := s) rfl ?_
            exact wpc_ret rfl rfl (fun q => absurd q (by decide)) rfl ⟨(-1 : Int32), rfl, h721⟩
          · have h722 := h719.2 hc720
            refine wpc_sl (n := 7) (c' := 14) (pc' := 43) (ls' := [some (.ref 0), some (.int a1), some (.int a2)]) (st' := [.int ((a1 * (16 : Int32)) + a2), .ref 7]) (s' := s) rfl ?_
            refine wpc_ldaI (a := 6) (N := 128) (v := (gI s 7 (ix ((a1 * (16 : Int32)) + a2)))) rfl rfl (by decide) h722.1 rfl ?_
            have h723 := h722.2
            exact wpc_ret rfl rfl (fun q => absurd q (by decide)) rfl ⟨(gI s 7 (ix ((a1 * (16 : Int32)) + a2))), rfl, h723⟩
      · have h716 := h713.2 hc714
        refine wpc_sl (n := 1) (c' := 14) (pc' := 32) (ls' := [some (.ref 0), some (.int a1), some (.int a2)]) (st' := [.int (-1 : Int32)]) (s' := s) rfl ?_
        exact wpc_ret rfl rfl (fun q => absurd q (by decide)) rfl ⟨(-1 : Int32), rfl, h716⟩
theorem c16_in (a1 : Int32) (s : St) (Q : Int32 → St → Prop) (h : (((gI s 0 24) = (0 : Int32)) → Q (0 : Int32) s) ∧ (¬ ((gI s 0 24) = (0 : Int32)) → ((a1 < (0 : Int32)) → Q (0 : Int32) s) ∧ (¬ (a1 < (0 : Int32)) → ((a1 < (gI s 0 15)) → inb 8 a1 ∧ Q ((gI s 4 (ix a1)) &&& 1) s) ∧ (¬ (a1 < (gI s 0 15)) → Q (0 : Int32) s)))) : calI PP 16 14 [.ref 0, .int a1] s Q := by
  refine cal_of (me := cm16) (ls := [some (.ref 0), some (.int a1)]) rfl (Nat.le_of_ble_eq_true rfl) rfl ?_
  refine wpc_sl (n := 2) (c' := 14) (pc' := 4) (ls' := [some (.ref 0), some (.int a1)]) (st' := [.int (gI s 0 24)]) (s' := s) rfl ?_
  refine wpc_if (a := 19) (b := 7) rfl (by decide) rfl rfl (wpc_br (p := (gI s 0 24) = (0 : Int32)) ⟨fun hc724 => ?_, fun hc724 => ?_⟩)
  · have h725 := h.1 hc724
    refine wpc_sl (n := 1) (c' := 14) (pc' := 20) (ls' := [some (.ref 0), some (.int a1)]) (st' := [.int (0 : Int32)]) (s' := s) rfl ?_
    exact wpc_ret rfl rfl (fun q => absurd q (by decide)) rfl ⟨(0 : Int32), rfl, h725⟩
  · have h726 := h.2 hc724
    refine wpc_sl (n := 1) (c' := 14) (pc' := 8) (ls' := [some (.ref 0), some (.int a1)]) (st' := [.int a1]) (s' := s) rfl ?_
    refine wpc_if (a := 19) (b := 11) rfl (by decide) rfl rfl (wpc_br (p := a1 < (0 : Int32)) ⟨fun hc727 => ?_, fun hc727 => ?_⟩)
    · have h728 := h726.1 hc727
      refine wpc_sl (n := 1) (c' := 14) (pc' := 20) (ls' := [some (.ref 0), some (.int a1)]) (st' := [.int (0 : Int32)]) (s' := s) rfl ?_
      exact wpc_ret rfl rfl (fun q => absurd q (by decide)) rfl ⟨(0 : Int32), rfl, h728⟩
    · have h729 := h726.2 hc727
      refine wpc_sl (n := 3) (c' := 14) (pc' := 16) (ls' := [some (.ref 0), some (.int a1)]) (st' := [.int (gI s 0 15), .int a1]) (s' := s) rfl ?_
      refine wpc_icmp (a := 21) (b := 19) rfl (by decide) rfl rfl (wpc_br (p := a1 < (gI s 0 15)) ⟨fun hc730 => ?_, fun hc730 => ?_⟩)
      · have h731 := h729.1 hc730
        refine wpc_sl (n := 3) (c' := 14) (pc' := 26) (ls' := [some (.ref 0), some (.int a1)]) (st' := [.int a1, .ref 4]) (s' := s) rfl ?_
        refine wpc_ldaZ (a := 3) (N := 8) (v := (gI s 4 (ix a1))) rfl rfl (by decide) h731.1 rfl ?_
        have h733 := h731.2
        exact wpc_ret rfl rfl (fun q => absurd q (by decide)) rfl ⟨((gI s 4 (ix a1)) &&& 1), rfl, h733⟩
      · have h732 := h729.2 hc730
        refine wpc_sl (n := 1) (c' := 14) (pc' := 20) (ls' := [some (.ref 0), some (.int a1)]) (st' := [.int (0 : Int32)]) (s' := s) rfl ?_
        exact wpc_ret rfl rfl (fun q => absurd q (by decide)) rfl ⟨(0 : Int32), rfl, h732⟩
theorem c17_in (a1 : Int32) (s : St) (Q : Int32 → St → Prop) (h : (((gI s 0 24) = (0 : Int32)) → Q (0 : Int32) s) ∧ (¬ ((gI s 0 24) = (0 : Int32)) → ((a1 < (0 : Int32)) → Q (0 : Int32) s) ∧ (¬ (a1 < (0 : Int32)) → ((a1 < (gI s 0 15)) → inb 8 a1 ∧ Q (gI s 5 (ix a1)) s) ∧ (¬ (a1 < (gI s 0 15)) → Q (0 : Int32) s)))) : calI PP 17 14 [.ref 0, .int a1] s Q := by
  refine cal_of (me := cm17) (ls := [some (.ref 0), some (.int a1)]) rfl (Nat.le_of_ble_eq_true rfl) rfl ?_
  refine wpc_sl (n := 2) (c' := 14) (pc' := 4) (ls' := [some (.ref 0), some (.int a1)]) (st' := [.int (gI s 0 24)]) (s' := s) rfl ?_
  refine wpc_if (a := 19) (b := 7) rfl (by decide) rfl rfl (wpc_br (p := (gI s 0 24) = (0 : Int32)) ⟨fun hc734 => ?_, fun hc734 => ?_⟩)
  · have h735 := h.1 hc734
    refine wpc_sl (n := 1) (c' := 14) (pc' := 20) (ls' := [some (.ref 0), some (.int a1)]) (st' := [.int (0 : Int32)]) (s' := s) rfl ?_
    exact wpc_ret rfl rfl (fun q => absurd q (by decide)) rfl ⟨(0 : Int32), rfl, h735⟩
  · have h736 := h.2 hc734
    refine wpc_sl (n := 1) (c' := 14) (pc' := 8) (ls' := [some (.ref 0), some (.int a1)]) (st' := [.int a1]) (s' := s) rfl ?_
    refine wpc_if (a := 19) (b := 11) rfl (by decide) rfl rfl (wpc_br (p := a1 < (0 : Int32)) ⟨fun hc737 => ?_, fun hc737 => ?_⟩)
    · have h738 := h736.1 hc737
      refine wpc_sl (n := 1) (c' := 14) (pc' := 20) (ls' := [some (.ref 0), some (.int a1)]) (st' := [.int (0 : Int32)]) (s' := s) rfl ?_
      exact wpc_ret rfl rfl (fun q => absurd q (by decide)) rfl ⟨(0 : Int32), rfl, h738⟩
    · have h739 := h736.2 hc737
      refine wpc_sl (n := 3) (c' := 14) (pc' := 16) (ls' := [some (.ref 0), some (.int a1)]) (st' := [.int (gI s 0 15), .int a1]) (s' := s) rfl ?_
      refine wpc_icmp (a := 21) (b := 19) rfl (by decide) rfl rfl (wpc_br (p := a1 < (gI s 0 15)) ⟨fun hc740 => ?_, fun hc740 => ?_⟩)
      · have h741 := h739.1 hc740
        refine wpc_sl (n := 3) (c' := 14) (pc' := 26) (ls' := [some (.ref 0), some (.int a1)]) (st' := [.int a1, .ref 5]) (s' := s) rfl ?_
        refine wpc_ldaI (a := 4) (N := 8) (v := (gI s 5 (ix a1))) rfl rfl (by decide) h741.1 rfl ?_
        have h743 := h741.2
        exact wpc_ret rfl rfl (fun q => absurd q (by decide)) rfl ⟨(gI s 5 (ix a1)), rfl, h743⟩
      · have h742 := h739.2 hc740
        refine wpc_sl (n := 1) (c' := 14) (pc' := 20) (ls' := [some (.ref 0), some (.int a1)]) (st' := [.int (0 : Int32)]) (s' := s) rfl ?_
        exact wpc_ret rfl rfl (fun q => absurd q (by decide)) rfl ⟨(0 : Int32), rfl, h742⟩
theorem c18_in (a1 : Int32) (s : St) (Q : Int32 → St → Prop) (h : (((gI s 0 24) = (0 : Int32)) → Q (0 : Int32) s) ∧ (¬ ((gI s 0 24) = (0 : Int32)) → ((a1 < (0 : Int32)) → Q (0 : Int32) s) ∧ (¬ (a1 < (0 : Int32)) → ((a1 < (gI s 0 15)) → inb 8 a1 ∧ Q (gI s 6 (ix a1)) s) ∧ (¬ (a1 < (gI s 0 15)) → Q (0 : Int32) s)))) : calI PP 18 14 [.ref 0, .int a1] s Q := by
  refine cal_of (me := cm18) (ls := [some (.ref 0), some (.int a1)]) rfl (Nat.le_of_ble_eq_true rfl) rfl ?_
  refine wpc_sl (n := 2) (c' := 14) (pc' := 4) (ls' := [some (.ref 0), some (.int a1)]) (st' := [.int (gI s 0 24)]) (s' := s) rfl ?_
  refine wpc_if (a := 19) (b := 7) rfl (by decide) rfl rfl (wpc_br (p := (gI s 0 24) = (0 : Int32)) ⟨fun hc744 => ?_, fun hc744 => ?_⟩)
  · have h745 := h.1 hc744
    refine wpc_sl (n := 1) (c' := 14) (pc' := 20) (ls' := [some (.ref 0), some (.int a1)]) (st' := [.int (0 : Int32)]) (s' := s) rfl ?_
    exact wpc_ret rfl rfl (fun q => absurd q (by decide)) rfl ⟨(0 : Int32), rfl, h745⟩
  · have h746 := h.2 hc744
    refine wpc_sl (n := 1) (c' := 14) (pc' := 8) (ls' := [some (.ref 0), some (.int a1)]) (st' := [.int a1]) (s' := s) rfl ?_
    refine wpc_if (a := 19) (b := 11) rfl (by decide) rfl rfl (wpc_br (p := a1 < (0 : Int32)) ⟨fun hc747 => ?_, fun hc747 => ?_⟩)
    · have h748 := h746.1 hc747
      refine wpc_sl (n := 1) (c' := 14) (pc' := 20) (ls' := [some (.ref 0), some (.int a1)]) (st' := [.int (0 : Int32)]) (s' := s) rfl ?_
      exact wpc_ret rfl rfl (fun q => absurd q (by decide)) rfl ⟨(0 : Int32), rfl, h748⟩
    · have h749 := h746.2 hc747
      refine wpc_sl (n := 3) (c' := 14) (pc' := 16) (ls' := [some (.ref 0), some (.int a1)]) (st' := [.int (gI s 0 15), .int a1]) (s' := s) rfl ?_
      refine wpc_icmp (a := 21) (b := 19) rfl (by decide) rfl rfl (wpc_br (p := a1 < (gI s 0 15)) ⟨fun hc750 => ?_, fun hc750 => ?_⟩)
      · have h751 := h749.1 hc750
        refine wpc_sl (n := 3) (c' := 14) (pc' := 26) (ls' := [some (.ref 0), some (.int a1)]) (st' := [.int a1, .ref 6]) (s' := s) rfl ?_
        refine wpc_ldaI (a := 5) (N := 8) (v := (gI s 6 (ix a1))) rfl rfl (by decide) h751.1 rfl ?_
        have h753 := h751.2
        exact wpc_ret rfl rfl (fun q => absurd q (by decide)) rfl ⟨(gI s 6 (ix a1)), rfl, h753⟩
      · have h752 := h749.2 hc750
        refine wpc_sl (n := 1) (c' := 14) (pc' := 20) (ls' := [some (.ref 0), some (.int a1)]) (st' := [.int (0 : Int32)]) (s' := s) rfl ?_
        exact wpc_ret rfl rfl (fun q => absurd q (by decide)) rfl ⟨(0 : Int32), rfl, h752⟩
theorem c20_in (a1 : Int32) (s : St) (Q : Int32 → St → Prop) (h : (((gI s 0 24) = (0 : Int32)) → Q (-1 : Int32) s) ∧ (¬ ((gI s 0 24) = (0 : Int32)) → ((a1 < (0 : Int32)) → Q (-1 : Int32) s) ∧ (¬ (a1 < (0 : Int32)) → ((a1 < (gI s 0 20)) → ((a1 < (256 : Int32)) → inb 256 a1 ∧ Q (gI s 8 (ix a1)) s) ∧ (¬ (a1 < (256 : Int32)) → Q (-1 : Int32) s)) ∧ (¬ (a1 < (gI s 0 20)) → Q (-1 : Int32) s)))) : calI PP 20 14 [.ref 0, .int a1] s Q := by
  refine cal_of (me := cm20) (ls := [some (.ref 0), some (.int a1)]) rfl (Nat.le_of_ble_eq_true rfl) rfl ?_
  refine wpc_sl (n := 2) (c' := 14) (pc' := 4) (ls' := [some (.ref 0), some (.int a1)]) (st' := [.int (gI s 0 24)]) (s' := s) rfl ?_
  refine wpc_if (a := 26) (b := 7) rfl (by decide) rfl rfl (wpc_br (p := (gI s 0 24) = (0 : Int32)) ⟨fun hc754 => ?_, fun hc754 => ?_⟩)
  · have h755 := h.1 hc754
    refine wpc_sl (n := 1) (c' := 14) (pc' := 27) (ls' := [some (.ref 0), some (.int a1)]) (st' := [.int (-1 : Int32)]) (s' := s) rfl ?_
    exact wpc_ret rfl rfl (fun q => absurd q (by decide)) rfl ⟨(-1 : Int32), rfl, h755⟩
  · have h756 := h.2 hc754
    refine wpc_sl (n := 1) (c' := 14) (pc' := 8) (ls' := [some (.ref 0), some (.int a1)]) (st' := [.int a1]) (s' := s) rfl ?_
    refine wpc_if (a := 26) (b := 11) rfl (by decide) rfl rfl (wpc_br (p := a1 < (0 : Int32)) ⟨fun hc757 => ?_, fun hc757 => ?_⟩)
    · have h758 := h756.1 hc757
      refine wpc_sl (n := 1) (c' := 14) (pc' := 27) (ls' := [some (.ref 0), some (.int a1)]) (st' := [.int (-1 : Int32)]) (s' := s) rfl ?_
      exact wpc_ret rfl rfl (fun q => absurd q (by decide)) rfl ⟨(-1 : Int32), rfl, h758⟩
    · have h759 := h756.2 hc757
      refine wpc_sl (n := 3) (c' := 14) (pc' := 16) (ls' := [some (.ref 0), some (.int a1)]) (st' := [.int (gI s 0 20), .int a1]) (s' := s) rfl ?_
      refine wpc_icmp (a := 26) (b := 19) rfl (by decide) rfl rfl (wpc_br (p := a1 < (gI s 0 20)) ⟨fun hc760 => ?_, fun hc760 => ?_⟩)
      · have h761 := h759.1 hc760
        refine wpc_sl (n := 2) (c' := 14) (pc' := 23) (ls' := [some (.ref 0), some (.int a1)]) (st' := [.int (256 : Int32), .int a1]) (s' := s) rfl ?_
        refine wpc_icmp (a := 28) (b := 26) rfl (by decide) rfl rfl (wpc_br (p := a1 < (256 : Int32)) ⟨fun hc763 => ?_, fun hc763 => ?_⟩)
        · have h764 := h761.1 hc763
          refine wpc_sl (n := 3) (c' := 14) (pc' := 33) (ls' := [some (.ref 0), some (.int a1)]) (st' := [.int a1, .ref 8]) (s' := s) rfl ?_
          refine wpc_ldaI (a := 7) (N := 256) (v := (gI s 8 (ix a1))) rfl rfl (by decide) h764.1 rfl ?_
          have h766 := h764.2
          exact wpc_ret rfl rfl (fun q => absurd q (by decide)) rfl ⟨(gI s 8 (ix a1)), rfl, h766⟩
        · have h765 := h761.2 hc763
          refine wpc_sl (n := 1) (c' := 14) (pc' := 27) (ls' := [some (.ref 0), some (.int a1)]) (st' := [.int (-1 : Int32)]) (s' := s) rfl ?_
          exact wpc_ret rfl rfl (fun q => absurd q (by decide)) rfl ⟨(-1 : Int32), rfl, h765⟩
      · have h762 := h759.2 hc760
        refine wpc_sl (n := 1) (c' := 14) (pc' := 27) (ls' := [some (.ref 0), some (.int a1)]) (st' := [.int (-1 : Int32)]) (s' := s) rfl ?_
        exact wpc_ret rfl rfl (fun q => absurd q (by decide)) rfl ⟨(-1 : Int32), rfl, h762⟩
theorem c34_in  (s : St) (Q : Int32 → St → Prop) (h : Q (gI s 0 19) s) : calI PP 34 14 [.ref 0] s Q := by
  refine cal_of (me := cm34) (ls := [some (.ref 0)]) rfl (Nat.le_of_ble_eq_true rfl) rfl ?_
  refine wpc_sl (n := 2) (c' := 14) (pc' := 4) (ls' := [some (.ref 0)]) (st' := [.int (gI s 0 19)]) (s' := s) rfl ?_
  exact wpc_ret rfl rfl (fun q => absurd q (by decide)) rfl ⟨(gI s 0 19), rfl, h⟩
theorem c32_in  (s : St) (Q : Int32 → St → Prop) (h : Q (gI s 0 21) s) : calI PP 32 14 [.ref 0] s Q := by
  refine cal_of (me := cm32) (ls := [some (.ref 0)]) rfl (Nat.le_of_ble_eq_true rfl) rfl ?_
  refine wpc_sl (n := 2) (c' := 14) (pc' := 4) (ls' := [some (.ref 0)]) (st' := [.int (gI s 0 21)]) (s' := s) rfl ?_
  exact wpc_ret rfl rfl (fun q => absurd q (by decide)) rfl ⟨(gI s 0 21), rfl, h⟩
theorem c35_in (a1 : Int32) (s : St) (Q : Int32 → St → Prop) (h : ((a1 < (0 : Int32)) → Q (-1 : Int32) s) ∧ (¬ (a1 < (0 : Int32)) → ((a1 < (gI s 0 19)) → ((a1 < (256 : Int32)) → inb 256 a1 ∧ Q (gI s 10 (ix a1)) s) ∧ (¬ (a1 < (256 : Int32)) → Q (-1 : Int32) s)) ∧ (¬ (a1 < (gI s 0 19)) → Q (-1 : Int32) s))) : calI PP 35 14 [.ref 0, .int a1] s Q := by
  refine cal_of (me := cm35) (ls := [some (.ref 0), some (.int a1)]) rfl (Nat.le_of_ble_eq_true rfl) rfl ?_
  refine wpc_sl (n := 1) (c' := 14) (pc' := 1) (ls' := [some (.ref 0), some (.int a1)]) (st' := [.int a1]) (s' := s) rfl ?_
  refine wpc_if (a := 19) (b := 4) rfl (by decide) rfl rfl (wpc_br (p := a1 < (0 : Int32)) ⟨fun hc767 => ?_, fun hc767 => ?_⟩)
  · have h768 := h.1 hc767
    refine wpc_sl (n := 1) (c' := 14) (pc' := 20) (ls' := [some (.ref 0), some (.int a1)]) (st' := [.int (-1 : Int32)]) (s' := s) rfl ?_
    exact wpc_ret rfl rfl (fun q => absurd q (by decide)) rfl ⟨(-1 : Int32), rfl, h768⟩
  · have h769 := h.2 hc767
    refine wpc_sl (n := 3) (c' := 14) (pc' := 9) (ls' := [some (.ref 0), some (.int a1)]) (st' := [.int (gI s 0 19), .int a1]) (s' := s) rfl ?_
    refine wpc_icmp (a := 19) (b := 12) rfl (by decide) rfl rfl (wpc_br (p := a1 < (gI s 0 19)) ⟨fun hc770 => ?_, fun hc770 => ?_⟩)
    · have h771 := h769.1 hc770
      refine wpc_sl (n := 2) (c' := 14) (pc' := 16) (ls' := [some (.ref 0), some (.int a1)]) (st' := [.int (256 : Int32), .int a1]) (s' := s) rfl ?_
      refine wpc_icmp (a := 21) (b := 19) rfl (by decide) rfl rfl (wpc_br (p := a1 < (256 : Int32)) ⟨fun hc773 => ?_, fun hc773 => ?_⟩)
      · have h774 := h771.1 hc773
        refine wpc_sl (n := 3) (c' := 14) (pc' := 26) (ls' := [some (.ref 0), some (.int a1)]) (st' := [.int a1, .ref 10]) (s' := s) rfl ?_
        refine wpc_ldaI (a := 9) (N := 256) (v := (gI s 10 (ix a1))) rfl rfl (by decide) h774.1 rfl ?_
        have h776 := h774.2
        exact wpc_ret rfl rfl (fun q => absurd q (by decide)) rfl ⟨(gI s 10 (ix a1)), rfl, h776⟩
      · have h775 := h771.2 hc773
        refine wpc_sl (n := 1) (c' := 14) (pc' := 20) (ls' := [some (.ref 0), some (.int a1)]) (st' := [.int (-1 : Int32)]) (s' := s) rfl ?_
        exact wpc_ret rfl rfl (fun q => absurd q (by decide)) rfl ⟨(-1 : Int32), rfl, h775⟩
    · have h772 := h769.2 hc770
      refine wpc_sl (n := 1) (c' := 14) (pc' := 20) (ls' := [some (.ref 0), some (.int a1)]) (st' := [.int (-1 : Int32)]) (s' := s) rfl ?_
      exact wpc_ret rfl rfl (fun q => absurd q (by decide)) rfl ⟨(-1 : Int32), rfl, h772⟩
theorem c36_in (a1 : Int32) (s : St) (Q : Int32 → St → Prop) (h : ((a1 < (0 : Int32)) → Q (-2 : Int32) s) ∧ (¬ (a1 < (0 : Int32)) → ((a1 < (gI s 0 19)) → ((a1 < (256 : Int32)) → inb 256 a1 ∧ Q (gI s 11 (ix a1)) s) ∧ (¬ (a1 < (256 : Int32)) → Q (-2 : Int32) s)) ∧ (¬ (a1 < (gI s 0 19)) → Q (-2 : Int32) s))) : calI PP 36 14 [.ref 0, .int a1] s Q := by
  refine cal_of (me := cm36) (ls := [some (.ref 0), some (.int a1)]) rfl (Nat.le_of_ble_eq_true rfl) rfl ?_
  refine wpc_sl (n := 1) (c' := 14) (pc' := 1) (ls' := [some (.ref 0), some (.int a1)]) (st' := [.int a1]) (s' := s) rfl ?_
  refine wpc_if (a := 19) (b := 4) rfl (by decide) rfl rfl (wpc_br (p := a1 < (0 : Int32)) ⟨fun hc777 => ?_, fun hc777 => ?_⟩)
  · have h778 := h.1 hc777
    refine wpc_sl (n := 1) (c' := 14) (pc' := 21) (ls' := [some (.ref 0), some (.int a1)]) (st' := [.int (-2 : Int32)]) (s' := s) rfl ?_
    exact wpc_ret rfl rfl (fun q => absurd q (by decide)) rfl ⟨(-2 : Int32), rfl, h778⟩
  · have h779 := h.2 hc777
    refine wpc_sl (n := 3) (c' := 14) (pc' := 9) (ls' := [some (.ref 0), some (.int a1)]) (st' := [.int (gI s 0 19), .int a1]) (s' := s) rfl ?_
    refine wpc_icmp (a := 19) (b := 12) rfl (by decide) rfl rfl (wpc_br (p := a1 < (gI s 0 19)) ⟨fun hc780 => ?_, fun hc780 => ?_⟩)
    · have h781 := h779.1 hc780
      refine wpc_sl (n := 2) (c' := 14) (pc' := 16) (ls' := [some (.ref 0), some (.int a1)]) (st' := [.int (256 : Int32), .int a1]) (s' := s) rfl ?_
      refine wpc_icmp (a := 22) (b := 19) rfl (by decide) rfl rfl (wpc_br (p := a1 < (256 : Int32)) ⟨fun hc783 => ?_, fun hc783 => ?_⟩)
      · have h784 := h781.1 hc783
        refine wpc_sl (n := 3) (c' := 14) (pc' := 27) (ls' := [some (.ref 0), some (.int a1)]) (st' := [.int a1, .ref 11]) (s' := s) rfl ?_
        refine wpc_ldaI (a := 10) (N := 256) (v := (gI s 11 (ix a1))) rfl rfl (by decide) h784.1 rfl ?_
        have h786 := h784.2
        exact wpc_ret rfl rfl (fun q => absurd q (by decide)) rfl ⟨(gI s 11 (ix a1)), rfl, h786⟩
      · have h785 := h781.2 hc783
        refine wpc_sl (n := 1) (c' := 14) (pc' := 21) (ls' := [some (.ref 0), some (.int a1)]) (st' := [.int (-2 : Int32)]) (s' := s) rfl ?_
        exact wpc_ret rfl rfl (fun q => absurd q (by decide)) rfl ⟨(-2 : Int32), rfl, h785⟩
    · have h782 := h779.2 hc780
      refine wpc_sl (n := 1) (c' := 14) (pc' := 21) (ls' := [some (.ref 0), some (.int a1)]) (st' := [.int (-2 : Int32)]) (s' := s) rfl ?_
      exact wpc_ret rfl rfl (fun q => absurd q (by decide)) rfl ⟨(-2 : Int32), rfl, h782⟩
theorem c37_in (a1 : Int32) (s : St) (Q : Int32 → St → Prop) (h : ((a1 < (0 : Int32)) → Q (-2 : Int32) s) ∧ (¬ (a1 < (0 : Int32)) → ((a1 < (gI s 0 19)) → ((a1 < (256 : Int32)) → inb 256 a1 ∧ Q (gI s 12 (ix a1)) s) ∧ (¬ (a1 < (256 : Int32)) → Q (-2 : Int32) s)) ∧ (¬ (a1 < (gI s 0 19)) → Q (-2 : Int32) s))) : calI PP 37 14 [.ref 0, .int a1] s Q := by
  refine cal_of (me := cm37) (ls := [some (.ref 0), some (.int a1)]) rfl (Nat.le_of_ble_eq_true rfl) rfl ?_
  refine wpc_sl (n := 1) (c' := 14) (pc' := 1) (ls' := [some (.ref 0), some (.int a1)]) (st' := [.int a1]) (s' := s) rfl ?_
  refine wpc_if (a := 19) (b := 4) rfl (by decide) rfl rfl (wpc_br (p := a1 < (0 : Int32)) ⟨fun hc787 => ?_, fun hc787 => ?_⟩)
  · have h788 := h.1 hc787
    refine wpc_sl (n := 1) (c' := 14) (pc' := 21) (ls' := [some (.ref 0), some (.int a1)]) (st' := [.int (-2 : Int32)]) (s' := s) rfl ?_
    exact wpc_ret rfl rfl (fun q => absurd q (by decide)) rfl ⟨(-2 : Int32), rfl, h788⟩
  · have h789 := h.2 hc787
    refine wpc_sl (n := 3) (c' := 14) (pc' := 9) (ls' := [some (.ref 0), some (.int a1)]) (st' := [.int (gI s 0 19), .int a1]) (s' := s) rfl ?_
    refine wpc_icmp (a := 19) (b := 12) rfl (by decide) rfl rfl (wpc_br (p := a1 < (gI s 0 19)) ⟨fun hc790 => ?_, fun hc790 => ?_⟩)
    · have h791 := h789.1 hc790
      refine wpc_sl (n := 2) (c' := 14) (pc' := 16) (ls' := [some (.ref 0), some (.int a1)]) (st' := [.int (256 : Int32), .int a1]) (s' := s) rfl ?_
      refine wpc_icmp (a := 22) (b := 19) rfl (by decide) rfl rfl (wpc_br (p := a1 < (256 : Int32)) ⟨fun hc793 => ?_, fun hc793 => ?_⟩)
      · have h794 := h791.1 hc793
        refine wpc_sl (n := 3) (c' := 14) (pc' := 27) (ls' := [some (.ref 0), some (.int a1)]) (st' := [.int a1, .ref 12]) (s' := s) rfl ?_
        refine wpc_ldaI (a := 11) (N := 256) (v := (gI s 12 (ix a1))) rfl rfl (by decide) h794.1 rfl ?_
        have h796 := h794.2
        exact wpc_ret rfl rfl (fun q => absurd q (by decide)) rfl ⟨(gI s 12 (ix a1)), rfl, h796⟩
      · have h795 := h791.2 hc793
        refine wpc_sl (n := 1) (c' := 14) (pc' := 21) (ls' := [some (.ref 0), some (.int a1)]) (st' := [.int (-2 : Int32)]) (s' := s) rfl ?_
        exact wpc_ret rfl rfl (fun q => absurd q (by decide)) rfl ⟨(-2 : Int32), rfl, h795⟩
    · have h792 := h789.2 hc790
      refine wpc_sl (n := 1) (c' := 14) (pc' := 21) (ls' := [some (.ref 0), some (.int a1)]) (st' := [.int (-2 : Int32)]) (s' := s) rfl ?_
      exact wpc_ret rfl rfl (fun q => absurd q (by decide)) rfl ⟨(-2 : Int32), rfl, h792⟩
theorem c33_in (a1 : Int32) (s : St) (Q : Int32 → St → Prop) (h : ∀ m797, m797 = (if (64 : Int32) < (gI s 0 21) then (64 : Int32) else (gI s 0 21)) → (((a1 < (0 : Int32)) → Q (-1 : Int32) s) ∧ (¬ (a1 < (0 : Int32)) → ((a1 < m797) → inb 64 a1 ∧ Q (gI s 14 (ix a1)) s) ∧ (¬ (a1 < m797) → Q (-1 : Int32) s)))) : calI PP 33 14 [.ref 0, .int a1] s Q := by
  refine cal_of (me := cm33) (ls := [some (.ref 0), some (.int a1), none]) rfl (Nat.le_of_ble_eq_true rfl) rfl ?_
  refine wpc_sl (n := 5) (c' := 14) (pc' := 8) (ls' := [some (.ref 0), some (.int a1), some (.int (gI s 0 21))]) (st' := [.int (64 : Int32), .int (gI s 0 21)]) (s' := s) rfl ?_
  have hm798 : ∀ m797, m797 = (if (64 : Int32) < (gI s 0 21) then (64 : Int32) else (gI s 0 21)) → wpcI PP 33 cm33 14 14 [some (.ref 0), some (.int a1), some (.int m797)] [] s Q := by
    intro m797 em797
    have h799 := h m797 em797
    refine wpc_sl (n := 1) (c' := 14) (pc' := 15) (ls' := [some (.ref 0), some (.int a1), some (.int m797)]) (st' := [.int a1]) (s' := s) rfl ?_
    refine wpc_if (a := 23) (b := 18) rfl (by decide) rfl rfl (wpc_br (p := a1 < (0 : Int32)) ⟨fun hc800 => ?_, fun hc800 => ?_⟩)
    · have h801 := h799.1 hc800
      refine wpc_sl (n := 1) (c' := 14) (pc' := 24) (ls' := [some (.ref 0), some (.int a1), some (.int m797)]) (st' := [.int (-1 : Int32)]) (s' := s) rfl ?_
      exact wpc_ret rfl rfl (fun q => absurd q (by decide)) rfl ⟨(-1 : Int32), rfl, h801⟩
    · have h802 := h799.2 hc800
      refine wpc_sl (n := 2) (c' := 14) (pc' := 20) (ls' := [some (.ref 0), some (.int a1), some (.int m797)]) (st' := [.int m797, .int a1]) (s' := s) rfl ?_
      refine wpc_icmp (a := 25) (b := 23) rfl (by decide) rfl rfl (wpc_br (p := a1 < m797) ⟨fun hc803 => ?_, fun hc803 => ?_⟩)
      · have h804 := h802.1 hc803
        refine wpc_sl (n := 3) (c' := 14) (pc' := 30) (ls' := [some (.ref 0), some (.int a1), some (.int m797)]) (st' := [.int a1, .ref 14]) (s' := s) rfl ?_
        refine wpc_ldaI (a := 13) (N := 64) (v := (gI s 14 (ix a1))) rfl rfl (by decide) h804.1 rfl ?_
        have h806 := h804.2
        exact wpc_ret rfl rfl (fun q => absurd q (by decide)) rfl ⟨(gI s 14 (ix a1)), rfl, h806⟩
      · have h805 := h802.2 hc803
        refine wpc_sl (n := 1) (c' := 14) (pc' := 24) (ls' := [some (.ref 0), some (.int a1), some (.int m797)]) (st' := [.int (-1 : Int32)]) (s' := s) rfl ?_
        exact wpc_ret rfl rfl (fun q => absurd q (by decide)) rfl ⟨(-1 : Int32), rfl, h805⟩
  refine wpc_icmp (a := 14) (b := 11) rfl (by decide) rfl rfl (wpc_br (p := (64 : Int32) < (gI s 0 21)) ⟨fun hc807 => ?_, fun hc807 => ?_⟩)
  · refine wpc_sl (n := 2) (c' := 14) (pc' := 14) (ls' := [some (.ref 0), some (.int a1), some (.int (64 : Int32))]) (st' := []) (s' := s) rfl ?_
    first | exact hm798 _ (by simp only [if_pos hc807]) | exact wpc_lle (by repeat (first | exact trivial | refine ⟨rfl, ?_⟩)) (hm798 _ (by simp only [if_pos hc807]))
  · first | exact hm798 _ (by simp only [if_neg hc807]) | exact wpc_lle (by repeat (first | exact trivial | refine ⟨rfl, ?_⟩)) (hm798 _ (by simp only [if_neg hc807]))
theorem l4r1r2W2_in (N : Nat) (sg : Nat → Int32)  (s : St) (t : St) (Q : Int32 → Wd → Prop) (h : wplI PP QQ (some (N, sg)) 4 lm4 2 [some (.ref 1), some (.ref 2), some (.int (0 : Int32)), none, none] [] (W2 s t) Q) : lalI PP QQ (some (N, sg)) 4 [.ref 1, .ref 2] (W2 s t) Q := by
  refine lal_of (me := lm4) (ls := [some (.ref 1), some (.ref 2), none, none, none]) rfl (Nat.le_of_ble_eq_true rfl) rfl ?_
  refine wpl_sl (n := 2) (pc' := 2) (ls' := [some (.ref 1), some (.ref 2), some (.int (0 : Int32)), none, none]) (st' := []) rfl ?_
  exact h
theorem l4r1r2W2_2 (N : Nat) (sg : Nat → Int32) (x2 : Int32) (s : St) (t : St) (Q : Int32 → Wd → Prop) (h : ((x2 < (15 : Int32)) → calI PP 19 14 [.ref 0, .int (x2 / (5 : Int32)), .int (x2 % (5 : Int32))] s (fun v598 s597 => calI PP 19 14 [.ref 0, .int (x2 / (5 : Int32)), .int (x2 % (5 : Int32))] t (fun v601 s600 => ((v598 = v601) → wplI PP QQ (some (N, sg)) 4 lm4 2 [some (.ref 1), some (.ref 2), some (.int (x2 + (1 : Int32))), none, none] [] (W2 s597 s600) Q) ∧ (¬ (v598 = v601) → Q (0 : Int32) (W2 s597 s600))))) ∧ (¬ (x2 < (15 : Int32)) → wplI PP QQ (some (N, sg)) 4 lm4 44 [some (.ref 1), some (.ref 2), some (.int (0 : Int32)), none, none] [] (W2 s t) Q)) : wplI PP QQ (some (N, sg)) 4 lm4 2 [some (.ref 1), some (.ref 2), some (.int x2), none, none] [] (W2 s t) Q := by
  refine wpl_sl (n := 2) (pc' := 5) (ls' := [some (.ref 1), some (.ref 2), some (.int x2), none, none]) (st' := [.int (15 : Int32), .int x2]) rfl ?_
  refine wpl_icmp (a := 42) (b := 8) rfl (by decide) rfl rfl (wpl_br (p := x2 < (15 : Int32)) ⟨fun hc594 => ?_, fun hc594 => ?_⟩)
  · have h595 := h.1 hc594
    refine wpl_sl (n := 5) (pc' := 13) (ls' := [some (.ref 1), some (.ref 2), some (.int x2), some (.int (x2 / (5 : Int32))), none]) (st' := [.int x2]) rfl ?_
    refine wpl_sl (n := 5) (pc' := 19) (ls' := [some (.ref 1), some (.ref 2), some (.int x2), some (.int (x2 / (5 : Int32))), some (.int (x2 % (5 : Int32)))]) (st' := [.int (x2 / (5 : Int32)), .ref 1]) rfl ?_
    refine wpl_sl (n := 1) (pc' := 21) (ls' := [some (.ref 1), some (.ref 2), some (.int x2), some (.int (x2 / (5 : Int32))), some (.int (x2 % (5 : Int32)))]) (st' := [.int (x2 % (5 : Int32)), .int (x2 / (5 : Int32)), .ref 1]) rfl ?_
    refine wpl_v2a (m' := 19) (me' := cm19) (as := [.int (x2 / (5 : Int32)), .int (x2 % (5 : Int32))]) (r := []) rfl rfl rfl rfl rfl ⟨by decide, (by first | decide | exact Nat.le_of_ble_eq_true rfl), (by first | decide | exact Nat.le_of_ble_eq_true rfl), rfl⟩ (cal_I (calI.mono h595 fun v598 s597 h599 => ?_))
    refine wpl_sl (n := 3) (pc' := 28) (ls' := [some (.ref 1), some (.ref 2), some (.int x2), some (.int (x2 / (5 : Int32))), some (.int (x2 % (5 : Int32)))]) (st' := [.int (x2 % (5 : Int32)), .int (x2 / (5 : Int32)), .ref 2, .int v598]) rfl ?_
    refine wpl_v2b (m' := 19) (me' := cm19) (as := [.int (x2 / (5 : Int32)), .int (x2 % (5 : Int32))]) (r := [.int v598]) rfl rfl rfl rfl rfl ⟨by decide, (by first | decide | exact Nat.le_of_ble_eq_true rfl), (by first | decide | exact Nat.le_of_ble_eq_true rfl), rfl⟩ (cal_I (calI.mono h599 fun v601 s600 h602 => ?_))
    refine wpl_icmp (a := 36) (b := 34) rfl (by decide) rfl rfl (wpl_br (p := v598 = v601) ⟨fun hc603 => ?_, fun hc603 => ?_⟩)
    · have h604 := h602.1 hc603
      refine wpl_sl (n := 2) (pc' := 2) (ls' := [some (.ref 1), some (.ref 2), some (.int (x2 + (1 : Int32))), some (.int (x2 / (5 : Int32))), some (.int (x2 % (5 : Int32)))]) (st' := []) rfl ?_
      exact wpl_lle (ls := [some (.ref 1), some (.ref 2), some (.int (x2 + (1 : Int32))), none, none]) ⟨rfl, rfl, rfl, trivial⟩ h604
    · have h605 := h602.2 hc603
      refine wpl_sl (n := 1) (pc' := 35) (ls' := [some (.ref 1), some (.ref 2), some (.int x2), some (.int (x2 / (5 : Int32))), some (.int (x2 % (5 : Int32)))]) (st' := [.int (0 : Int32)]) rfl ?_
      exact wpl_ret rfl rfl rfl ⟨(0 : Int32), rfl, h605⟩
  · have h596 := h.2 hc594
    refine wpl_sl (n := 2) (pc' := 44) (ls' := [some (.ref 1), some (.ref 2), some (.int (0 : Int32)), none, none]) (st' := []) rfl ?_
    exact h596
theorem l4r1r2W2_44 (N : Nat) (sg : Nat → Int32) (x2 : Int32) (s : St) (t : St) (Q : Int32 → Wd → Prop) (h : ((x2 < (3 : Int32)) → calI PP 16 14 [.ref 0, .int x2] s (fun v610 s609 => calI PP 16 14 [.ref 0, .int x2] t (fun v613 s612 => ((v610 = v613) → calI PP 17 14 [.ref 0, .int x2] s609 (fun v619 s618 => calI PP 17 14 [.ref 0, .int x2] s612 (fun v622 s621 => ((v619 = v622) → calI PP 18 14 [.ref 0, .int x2] s618 (fun v628 s627 => calI PP 18 14 [.ref 0, .int x2] s621 (fun v631 s630 => ((v628 = v631) → wplI PP QQ (some (N, sg)) 4 lm4 44 [some (.ref 1), some (.ref 2), some (.int (x2 + (1 : Int32))), none, none] [] (W2 s627 s630) Q) ∧ (¬ (v628 = v631) → Q (0 : Int32) (W2 s627 s630))))) ∧ (¬ (v619 = v622) → Q (0 : Int32) (W2 s618 s621))))) ∧ (¬ (v610 = v613) → Q (0 : Int32) (W2 s609 s612))))) ∧ (¬ (x2 < (3 : Int32)) → wplI PP QQ (some (N, sg)) 4 lm4 98 [some (.ref 1), some (.ref 2), some (.int (0 : Int32)), none, none] [] (W2 s t) Q)) : wplI PP QQ (some (N, sg)) 4 lm4 44 [some (.ref 1), some (.ref 2), some (.int x2), none, none] [] (W2 s t) Q := by
  refine wpl_sl (n := 2) (pc' := 46) (ls' := [some (.ref 1), some (.ref 2), some (.int x2), none, none]) (st' := [.int (3 : Int32), .int x2]) rfl ?_
  refine wpl_icmp (a := 96) (b := 49) rfl (by decide) rfl rfl (wpl_br (p := x2 < (3 : Int32)) ⟨fun hc606 => ?_, fun hc606 => ?_⟩)
  · have h607 := h.1 hc606
    refine wpl_sl (n := 2) (pc' := 51) (ls' := [some (.ref 1), some (.ref 2), some (.int x2), none, none]) (st' := [.int x2, .ref 1]) rfl ?_
    refine wpl_v2a (m' := 16) (me' := cm16) (as := [.int x2]) (r := []) rfl rfl rfl rfl rfl ⟨by decide, (by first | decide | exact Nat.le_of_ble_eq_true rfl), (by first | decide | exact Nat.le_of_ble_eq_true rfl), rfl⟩ (cal_I (calI.mono h607 fun v610 s609 h611 => ?_))
    refine wpl_sl (n := 2) (pc' := 56) (ls' := [some (.ref 1), some (.ref 2), some (.int x2), none, none]) (st' := [.int x2, .ref 2, .int v610]) rfl ?_
    refine wpl_v2b (m' := 16) (me' := cm16) (as := [.int x2]) (r := [.int v610]) rfl rfl rfl rfl rfl ⟨by decide, (by first | decide | exact Nat.le_of_ble_eq_true rfl), (by first | decide | exact Nat.le_of_ble_eq_true rfl), rfl⟩ (cal_I (calI.mono h611 fun v613 s612 h614 => ?_))
    refine wpl_icmp (a := 88) (b := 62) rfl (by decide) rfl rfl (wpl_br (p := v610 = v613) ⟨fun hc615 => ?_, fun hc615 => ?_⟩)
    · have h616 := h614.1 hc615
      refine wpl_sl (n := 2) (pc' := 64) (ls' := [some (.ref 1), some (.ref 2), some (.int x2), none, none]) (st' := [.int x2, .ref 1]) rfl ?_
      refine wpl_v2a (m' := 17) (me' := cm17) (as := [.int x2]) (r := []) rfl rfl rfl rfl rfl ⟨by decide, (by first | decide | exact Nat.le_of_ble_eq_true rfl), (by first | decide | exact Nat.le_of_ble_eq_true rfl), rfl⟩ (cal_I (calI.mono h616 fun v619 s618 h620 => ?_))
      refine wpl_sl (n := 2) (pc' := 69) (ls' := [some (.ref 1), some (.ref 2), some (.int x2), none, none]) (st' := [.int x2, .ref 2, .int v619]) rfl ?_
      refine wpl_v2b (m' := 17) (me' := cm17) (as := [.int x2]) (r := [.int v619]) rfl rfl rfl rfl rfl ⟨by decide, (by first | decide | exact Nat.le_of_ble_eq_true rfl), (by first | decide | exact Nat.le_of_ble_eq_true rfl), rfl⟩ (cal_I (calI.mono h620 fun v622 s621 h623 => ?_))
      refine wpl_icmp (a := 88) (b := 75) rfl (by decide) rfl rfl (wpl_br (p := v619 = v622) ⟨fun hc624 => ?_, fun hc624 => ?_⟩)
      · have h625 := h623.1 hc624
        refine wpl_sl (n := 2) (pc' := 77) (ls' := [some (.ref 1), some (.ref 2), some (.int x2), none, none]) (st' := [.int x2, .ref 1]) rfl ?_
        refine wpl_v2a (m' := 18) (me' := cm18) (as := [.int x2]) (r := []) rfl rfl rfl rfl rfl ⟨by decide, (by first | decide | exact Nat.le_of_ble_eq_true rfl), (by first | decide | exact Nat.le_of_ble_eq_true rfl), rfl⟩ (cal_I (calI.mono h625 fun v628 s627 h629 => ?_))
        refine wpl_sl (n := 2) (pc' := 82) (ls' := [some (.ref 1), some (.ref 2), some (.int x2), none, none]) (st' := [.int x2, .ref 2, .int v628]) rfl ?_
        refine wpl_v2b (m' := 18) (me' := cm18) (as := [.int x2]) (r := [.int v628]) rfl rfl rfl rfl rfl ⟨by decide, (by first | decide | exact Nat.le_of_ble_eq_true rfl), (by first | decide | exact Nat.le_of_ble_eq_true rfl), rfl⟩ (cal_I (calI.mono h629 fun v631 s630 h632 => ?_))
        refine wpl_icmp (a := 90) (b := 88) rfl (by decide) rfl rfl (wpl_br (p := v628 = v631) ⟨fun hc633 => ?_, fun hc633 => ?_⟩)
        · have h634 := h632.1 hc633
          refine wpl_sl (n := 2) (pc' := 44) (ls' := [some (.ref 1), some (.ref 2), some (.int (x2 + (1 : Int32))), none, none]) (st' := []) rfl ?_
          exact h634
        · have h635 := h632.2 hc633
          refine wpl_sl (n := 1) (pc' := 89) (ls' := [some (.ref 1), some (.ref 2), some (.int x2), none, none]) (st' := [.int (0 : Int32)]) rfl ?_
          exact wpl_ret rfl rfl rfl ⟨(0 : Int32), rfl, h635⟩
      · have h626 := h623.2 hc624
        refine wpl_sl (n := 1) (pc' := 89) (ls' := [some (.ref 1), some (.ref 2), some (.int x2), none, none]) (st' := [.int (0 : Int32)]) rfl ?_
        exact wpl_ret rfl rfl rfl ⟨(0 : Int32), rfl, h626⟩
    · have h617 := h614.2 hc615
      refine wpl_sl (n := 1) (pc' := 89) (ls' := [some (.ref 1), some (.ref 2), some (.int x2), none, none]) (st' := [.int (0 : Int32)]) rfl ?_
      exact wpl_ret rfl rfl rfl ⟨(0 : Int32), rfl, h617⟩
  · have h608 := h.2 hc606
    refine wpl_sl (n := 2) (pc' := 98) (ls' := [some (.ref 1), some (.ref 2), some (.int (0 : Int32)), none, none]) (st' := []) rfl ?_
    exact h608
theorem l4r1r2W2_98 (N : Nat) (sg : Nat → Int32) (x2 : Int32) (s : St) (t : St) (Q : Int32 → Wd → Prop) (h : ((x2 < (81 : Int32)) → calI PP 20 14 [.ref 0, .int x2] s (fun v640 s639 => calI PP 20 14 [.ref 0, .int x2] t (fun v643 s642 => ((v640 = v643) → wplI PP QQ (some (N, sg)) 4 lm4 98 [some (.ref 1), some (.ref 2), some (.int (x2 + (1 : Int32))), none, none] [] (W2 s639 s642) Q) ∧ (¬ (v640 = v643) → Q (0 : Int32) (W2 s639 s642))))) ∧ (¬ (x2 < (81 : Int32)) → calI PP 34 14 [.ref 0] s (fun v649 s648 => calI PP 34 14 [.ref 0] t (fun v652 s651 => ((v649 = v652) → calI PP 32 14 [.ref 0] s648 (fun v658 s657 => calI PP 32 14 [.ref 0] s651 (fun v661 s660 => ((v658 = v661) → wplI PP QQ (some (N, sg)) 4 lm4 151 [some (.ref 1), some (.ref 2), some (.int (0 : Int32)), none, none] [] (W2 s657 s660) Q) ∧ (¬ (v658 = v661) → Q (0 : Int32) (W2 s657 s660))))) ∧ (¬ (v649 = v652) → Q (0 : Int32) (W2 s648 s651)))))) : wplI PP QQ (some (N, sg)) 4 lm4 98 [some (.ref 1), some (.ref 2), some (.int x2), none, none] [] (W2 s t) Q := by
  refine wpl_sl (n := 2) (pc' := 101) (ls' := [some (.ref 1), some (.ref 2), some (.int x2), none, none]) (st' := [.int (81 : Int32), .int x2]) rfl ?_
  refine wpl_icmp (a := 125) (b := 104) rfl (by decide) rfl rfl (wpl_br (p := x2 < (81 : Int32)) ⟨fun hc636 => ?_, fun hc636 => ?_⟩)
  · have h637 := h.1 hc636
    refine wpl_sl (n := 2) (pc' := 106) (ls' := [some (.ref 1), some (.ref 2), some (.int x2), none, none]) (st' := [.int x2, .ref 1]) rfl ?_
    refine wpl_v2a (m' := 20) (me' := cm20) (as := [.int x2]) (r := []) rfl rfl rfl rfl rfl ⟨by decide, (by first | decide | exact Nat.le_of_ble_eq_true rfl), (by first | decide | exact Nat.le_of_ble_eq_true rfl), rfl⟩ (cal_I (calI.mono h637 fun v640 s639 h641 => ?_))
    refine wpl_sl (n := 2) (pc' := 111) (ls' := [some (.ref 1), some (.ref 2), some (.int x2), none, none]) (st' := [.int x2, .ref 2, .int v640]) rfl ?_
    refine wpl_v2b (m' := 20) (me' := cm20) (as := [.int x2]) (r := [.int v640]) rfl rfl rfl rfl rfl ⟨by decide, (by first | decide | exact Nat.le_of_ble_eq_true rfl), (by first | decide | exact Nat.le_of_ble_eq_true rfl), rfl⟩ (cal_I (calI.mono h641 fun v643 s642 h644 => ?_))
    refine wpl_icmp (a := 119) (b := 117) rfl (by decide) rfl rfl (wpl_br (p := v640 = v643) ⟨fun hc645 => ?_, fun hc645 => ?_⟩)
    · have h646 := h644.1 hc645
      refine wpl_sl (n := 2) (pc' := 98) (ls' := [some (.ref 1), some (.ref 2), some (.int (x2 + (1 : Int32))), none, none]) (st' := []) rfl ?_
      exact h646
    · have h647 := h644.2 hc645
      refine wpl_sl (n := 1) (pc' := 118) (ls' := [some (.ref 1), some (.ref 2), some (.int x2), none, none]) (st' := [.int (0 : Int32)]) rfl ?_
      exact wpl_ret rfl rfl rfl ⟨(0 : Int32), rfl, h647⟩
  · have h638 := h.2 hc636
    refine wpl_sl (n := 1) (pc' := 126) (ls' := [some (.ref 1), some (.ref 2), some (.int x2), none, none]) (st' := [.ref 1]) rfl ?_
    refine wpl_v2a (m' := 34) (me' := cm34) (as := []) (r := []) rfl rfl rfl rfl rfl ⟨by decide, (by first | decide | exact Nat.le_of_ble_eq_true rfl), (by first | decide | exact Nat.le_of_ble_eq_true rfl), rfl⟩ (cal_I (calI.mono h638 fun v649 s648 h650 => ?_))
    refine wpl_sl (n := 1) (pc' := 130) (ls' := [some (.ref 1), some (.ref 2), some (.int x2), none, none]) (st' := [.ref 2, .int v649]) rfl ?_
    refine wpl_v2b (m' := 34) (me' := cm34) (as := []) (r := [.int v649]) rfl rfl rfl rfl rfl ⟨by decide, (by first | decide | exact Nat.le_of_ble_eq_true rfl), (by first | decide | exact Nat.le_of_ble_eq_true rfl), rfl⟩ (cal_I (calI.mono h650 fun v652 s651 h653 => ?_))
    refine wpl_icmp (a := 147) (b := 136) rfl (by decide) rfl rfl (wpl_br (p := v649 = v652) ⟨fun hc654 => ?_, fun hc654 => ?_⟩)
    · have h655 := h653.1 hc654
      refine wpl_sl (n := 1) (pc' := 137) (ls' := [some (.ref 1), some (.ref 2), some (.int x2), none, none]) (st' := [.ref 1]) rfl ?_
      refine wpl_v2a (m' := 32) (me' := cm32) (as := []) (r := []) rfl rfl rfl rfl rfl ⟨by decide, (by first | decide | exact Nat.le_of_ble_eq_true rfl), (by first | decide | exact Nat.le_of_ble_eq_true rfl), rfl⟩ (cal_I (calI.mono h655 fun v658 s657 h659 => ?_))
      refine wpl_sl (n := 1) (pc' := 141) (ls' := [some (.ref 1), some (.ref 2), some (.int x2), none, none]) (st' := [.ref 2, .int v658]) rfl ?_
      refine wpl_v2b (m' := 32) (me' := cm32) (as := []) (r := [.int v658]) rfl rfl rfl rfl rfl ⟨by decide, (by first | decide | exact Nat.le_of_ble_eq_true rfl), (by first | decide | exact Nat.le_of_ble_eq_true rfl), rfl⟩ (cal_I (calI.mono h659 fun v661 s660 h662 => ?_))
      refine wpl_icmp (a := 149) (b := 147) rfl (by decide) rfl rfl (wpl_br (p := v658 = v661) ⟨fun hc663 => ?_, fun hc663 => ?_⟩)
      · have h664 := h662.1 hc663
        refine wpl_sl (n := 2) (pc' := 151) (ls' := [some (.ref 1), some (.ref 2), some (.int (0 : Int32)), none, none]) (st' := []) rfl ?_
        exact h664
      · have h665 := h662.2 hc663
        refine wpl_sl (n := 1) (pc' := 148) (ls' := [some (.ref 1), some (.ref 2), some (.int x2), none, none]) (st' := [.int (0 : Int32)]) rfl ?_
        exact wpl_ret rfl rfl rfl ⟨(0 : Int32), rfl, h665⟩
    · have h656 := h653.2 hc654
      refine wpl_sl (n := 1) (pc' := 148) (ls' := [some (.ref 1), some (.ref 2), some (.int x2), none, none]) (st' := [.int (0 : Int32)]) rfl ?_
      exact wpl_ret rfl rfl rfl ⟨(0 : Int32), rfl, h656⟩
theorem l4r1r2W2_151 (N : Nat) (sg : Nat → Int32) (x2 : Int32) (s : St) (t : St) (Q : Int32 → Wd → Prop) (h : ((x2 < (256 : Int32)) → calI PP 35 14 [.ref 0, .int x2] s (fun v670 s669 => calI PP 35 14 [.ref 0, .int x2] t (fun v673 s672 => ((v670 = v673) → calI PP 36 14 [.ref 0, .int x2] s669 (fun v679 s678 => calI PP 36 14 [.ref 0, .int x2] s672 (fun v682 s681 => ((v679 = v682) → calI PP 37 14 [.ref 0, .int x2] s678 (fun v688 s687 => calI PP 37 14 [.ref 0, .int x2] s681 (fun v691 s690 => ((v688 = v691) → wplI PP QQ (some (N, sg)) 4 lm4 151 [some (.ref 1), some (.ref 2), some (.int (x2 + (1 : Int32))), none, none] [] (W2 s687 s690) Q) ∧ (¬ (v688 = v691) → Q (0 : Int32) (W2 s687 s690))))) ∧ (¬ (v679 = v682) → Q (0 : Int32) (W2 s678 s681))))) ∧ (¬ (v670 = v673) → Q (0 : Int32) (W2 s669 s672))))) ∧ (¬ (x2 < (256 : Int32)) → wplI PP QQ (some (N, sg)) 4 lm4 207 [some (.ref 1), some (.ref 2), some (.int (0 : Int32)), none, none] [] (W2 s t) Q)) : wplI PP QQ (some (N, sg)) 4 lm4 151 [some (.ref 1), some (.ref 2), some (.int x2), none, none] [] (W2 s t) Q := by
  refine wpl_sl (n := 2) (pc' := 155) (ls' := [some (.ref 1), some (.ref 2), some (.int x2), none, none]) (st' := [.int (256 : Int32), .int x2]) rfl ?_
  refine wpl_icmp (a := 205) (b := 158) rfl (by decide) rfl rfl (wpl_br (p := x2 < (256 : Int32)) ⟨fun hc666 => ?_, fun hc666 => ?_⟩)
  · have h667 := h.1 hc666
    refine wpl_sl (n := 2) (pc' := 160) (ls' := [some (.ref 1), some (.ref 2), some (.int x2), none, none]) (st' := [.int x2, .ref 1]) rfl ?_
    refine wpl_v2a (m' := 35) (me' := cm35) (as := [.int x2]) (r := []) rfl rfl rfl rfl rfl ⟨by decide, (by first | decide | exact Nat.le_of_ble_eq_true rfl), (by first | decide | exact Nat.le_of_ble_eq_true rfl), rfl⟩ (cal_I (calI.mono h667 fun v670 s669 h671 => ?_))
    refine wpl_sl (n := 2) (pc' := 165) (ls' := [some (.ref 1), some (.ref 2), some (.int x2), none, none]) (st' := [.int x2, .ref 2, .int v670]) rfl ?_
    refine wpl_v2b (m' := 35) (me' := cm35) (as := [.int x2]) (r := [.int v670]) rfl rfl rfl rfl rfl ⟨by decide, (by first | decide | exact Nat.le_of_ble_eq_true rfl), (by first | decide | exact Nat.le_of_ble_eq_true rfl), rfl⟩ (cal_I (calI.mono h671 fun v673 s672 h674 => ?_))
    refine wpl_icmp (a := 197) (b := 171) rfl (by decide) rfl rfl (wpl_br (p := v670 = v673) ⟨fun hc675 => ?_, fun hc675 => ?_⟩)
    · have h676 := h674.1 hc675
      refine wpl_sl (n := 2) (pc' := 173) (ls' := [some (.ref 1), some (.ref 2), some (.int x2), none, none]) (st' := [.int x2, .ref 1]) rfl ?_
      refine wpl_v2a (m' := 36) (me' := cm36) (as := [.int x2]) (r := []) rfl rfl rfl rfl rfl ⟨by decide, (by first | decide | exact Nat.le_of_ble_eq_true rfl), (by first | decide | exact Nat.le_of_ble_eq_true rfl), rfl⟩ (cal_I (calI.mono h676 fun v679 s678 h680 => ?_))
      refine wpl_sl (n := 2) (pc' := 178) (ls' := [some (.ref 1), some (.ref 2), some (.int x2), none, none]) (st' := [.int x2, .ref 2, .int v679]) rfl ?_
      refine wpl_v2b (m' := 36) (me' := cm36) (as := [.int x2]) (r := [.int v679]) rfl rfl rfl rfl rfl ⟨by decide, (by first | decide | exact Nat.le_of_ble_eq_true rfl), (by first | decide | exact Nat.le_of_ble_eq_true rfl), rfl⟩ (cal_I (calI.mono h680 fun v682 s681 h683 => ?_))
      refine wpl_icmp (a := 197) (b := 184) rfl (by decide) rfl rfl (wpl_br (p := v679 = v682) ⟨fun hc684 => ?_, fun hc684 => ?_⟩)
      · have h685 := h683.1 hc684
        refine wpl_sl (n := 2) (pc' := 186) (ls' := [some (.ref 1), some (.ref 2), some (.int x2), none, none]) (st' := [.int x2, .ref 1]) rfl ?_
        refine wpl_v2a (m' := 37) (me' := cm37) (as := [.int x2]) (r := []) rfl rfl rfl rfl rfl ⟨by decide, (by first | decide | exact Nat.le_of_ble_eq_true rfl), (by first | decide | exact Nat.le_of_ble_eq_true rfl), rfl⟩ (cal_I (calI.mono h685 fun v688 s687 h689 => ?_))
        refine wpl_sl (n := 2) (pc' := 191) (ls' := [some (.ref 1), some (.ref 2), some (.int x2), none, none]) (st' := [.int x2, .ref 2, .int v688]) rfl ?_
        refine wpl_v2b (m' := 37) (me' := cm37) (as := [.int x2]) (r := [.int v688]) rfl rfl rfl rfl rfl ⟨by decide, (by first | decide | exact Nat.le_of_ble_eq_true rfl), (by first | decide | exact Nat.le_of_ble_eq_true rfl), rfl⟩ (cal_I (calI.mono h689 fun v691 s690 h692 => ?_))
        refine wpl_icmp (a := 199) (b := 197) rfl (by decide) rfl rfl (wpl_br (p := v688 = v691) ⟨fun hc693 => ?_, fun hc693 => ?_⟩)
        · have h694 := h692.1 hc693
          refine wpl_sl (n := 2) (pc' := 151) (ls' := [some (.ref 1), some (.ref 2), some (.int (x2 + (1 : Int32))), none, none]) (st' := []) rfl ?_
          exact h694
        · have h695 := h692.2 hc693
          refine wpl_sl (n := 1) (pc' := 198) (ls' := [some (.ref 1), some (.ref 2), some (.int x2), none, none]) (st' := [.int (0 : Int32)]) rfl ?_
          exact wpl_ret rfl rfl rfl ⟨(0 : Int32), rfl, h695⟩
      · have h686 := h683.2 hc684
        refine wpl_sl (n := 1) (pc' := 198) (ls' := [some (.ref 1), some (.ref 2), some (.int x2), none, none]) (st' := [.int (0 : Int32)]) rfl ?_
        exact wpl_ret rfl rfl rfl ⟨(0 : Int32), rfl, h686⟩
    · have h677 := h674.2 hc675
      refine wpl_sl (n := 1) (pc' := 198) (ls' := [some (.ref 1), some (.ref 2), some (.int x2), none, none]) (st' := [.int (0 : Int32)]) rfl ?_
      exact wpl_ret rfl rfl rfl ⟨(0 : Int32), rfl, h677⟩
  · have h668 := h.2 hc666
    refine wpl_sl (n := 2) (pc' := 207) (ls' := [some (.ref 1), some (.ref 2), some (.int (0 : Int32)), none, none]) (st' := []) rfl ?_
    exact h668
theorem l4r1r2W2_207 (N : Nat) (sg : Nat → Int32) (x2 : Int32) (s : St) (t : St) (Q : Int32 → Wd → Prop) (h : ((x2 < (64 : Int32)) → calI PP 33 14 [.ref 0, .int x2] s (fun v700 s699 => calI PP 33 14 [.ref 0, .int x2] t (fun v703 s702 => ((v700 = v703) → wplI PP QQ (some (N, sg)) 4 lm4 207 [some (.ref 1), some (.ref 2), some (.int (x2 + (1 : Int32))), none, none] [] (W2 s699 s702) Q) ∧ (¬ (v700 = v703) → Q (0 : Int32) (W2 s699 s702))))) ∧ (¬ (x2 < (64 : Int32)) → Q (1 : Int32) (W2 s t))) : wplI PP QQ (some (N, sg)) 4 lm4 207 [some (.ref 1), some (.ref 2), some (.int x2), none, none] [] (W2 s t) Q := by
  refine wpl_sl (n := 2) (pc' := 210) (ls' := [some (.ref 1), some (.ref 2), some (.int x2), none, none]) (st' := [.int (64 : Int32), .int x2]) rfl ?_
  refine wpl_icmp (a := 234) (b := 213) rfl (by decide) rfl rfl (wpl_br (p := x2 < (64 : Int32)) ⟨fun hc696 => ?_, fun hc696 => ?_⟩)
  · have h697 := h.1 hc696
    refine wpl_sl (n := 2) (pc' := 215) (ls' := [some (.ref 1), some (.ref 2), some (.int x2), none, none]) (st' := [.int x2, .ref 1]) rfl ?_
    refine wpl_v2a (m' := 33) (me' := cm33) (as := [.int x2]) (r := []) rfl rfl rfl rfl rfl ⟨by decide, (by first | decide | exact Nat.le_of_ble_eq_true rfl), (by first | decide | exact Nat.le_of_ble_eq_true rfl), rfl⟩ (cal_I (calI.mono h697 fun v700 s699 h701 => ?_))
    refine wpl_sl (n := 2) (pc' := 220) (ls' := [some (.ref 1), some (.ref 2), some (.int x2), none, none]) (st' := [.int x2, .ref 2, .int v700]) rfl ?_
    refine wpl_v2b (m' := 33) (me' := cm33) (as := [.int x2]) (r := [.int v700]) rfl rfl rfl rfl rfl ⟨by decide, (by first | decide | exact Nat.le_of_ble_eq_true rfl), (by first | decide | exact Nat.le_of_ble_eq_true rfl), rfl⟩ (cal_I (calI.mono h701 fun v703 s702 h704 => ?_))
    refine wpl_icmp (a := 228) (b := 226) rfl (by decide) rfl rfl (wpl_br (p := v700 = v703) ⟨fun hc705 => ?_, fun hc705 => ?_⟩)
    · have h706 := h704.1 hc705
      refine wpl_sl (n := 2) (pc' := 207) (ls' := [some (.ref 1), some (.ref 2), some (.int (x2 + (1 : Int32))), none, none]) (st' := []) rfl ?_
      exact h706
    · have h707 := h704.2 hc705
      refine wpl_sl (n := 1) (pc' := 227) (ls' := [some (.ref 1), some (.ref 2), some (.int x2), none, none]) (st' := [.int (0 : Int32)]) rfl ?_
      exact wpl_ret rfl rfl rfl ⟨(0 : Int32), rfl, h707⟩
  · have h698 := h.2 hc696
    refine wpl_sl (n := 1) (pc' := 235) (ls' := [some (.ref 1), some (.ref 2), some (.int x2), none, none]) (st' := [.int (1 : Int32)]) rfl ?_
    exact wpl_ret rfl rfl rfl ⟨(1 : Int32), rfl, h698⟩
theorem l0_in (N : Nat) (sg : Nat → Int32)   (Q : Int32 → Wd → Prop) (h : calV PP 0 0 [.ref 0, .int (3 : Int32), .int (4 : Int32)] s0 (fun s1 => calV PP 0 0 [.ref 0, .int (3 : Int32), .int (4 : Int32)] s0 (fun s3 => wplI PP QQ (some (N, sg)) 0 lm0 25 [some (.ref 0), some (.ref 1), some (.ref 2), some (.int (0 : Int32)), some (.int (0 : Int32)), none, none, none, none] [] (W2 s1 s3) Q))) : lalI PP QQ (some (N, sg)) 0 [.ref 0] W0 Q := by
  refine lal_of (me := lm0) (ls := [some (.ref 0), none, none, none, none, none, none, none, none]) rfl (Nat.le_of_ble_eq_true rfl) rfl ?_
  refine wpl_new0 rfl rfl (by decide) (by decide) ?_
  refine wpl_sl (n := 3) (pc' := 6) (ls' := [some (.ref 0), none, none, none, none, none, none, none, none]) (st' := [.int (4 : Int32), .int (3 : Int32), .ref 1, .ref 1]) rfl ?_
  refine wpl_ctor0 (me' := cm0) (as := [.int (3 : Int32), .int (4 : Int32)]) (r := [.ref 1]) rfl rfl rfl rfl rfl ⟨by decide, by decide, rfl, by decide, by decide⟩ (calV.mono h fun s1 h2 => ?_)
  refine wpl_sl (n := 1) (pc' := 10) (ls' := [some (.ref 0), some (.ref 1), none, none, none, none, none, none, none]) (st' := []) rfl ?_
  refine wpl_new1 rfl rfl (by decide) (by decide) ?_
  refine wpl_sl (n := 3) (pc' := 16) (ls' := [some (.ref 0), some (.ref 1), none, none, none, none, none, none, none]) (st' := [.int (4 : Int32), .int (3 : Int32), .ref 2, .ref 2]) rfl ?_
  refine wpl_ctor1 (me' := cm0) (as := [.int (3 : Int32), .int (4 : Int32)]) (r := [.ref 2]) rfl rfl rfl rfl rfl ⟨by decide, by decide, rfl, by decide, by decide⟩ (calV.mono h2 fun s3 h4 => ?_)
  refine wpl_sl (n := 5) (pc' := 25) (ls' := [some (.ref 0), some (.ref 1), some (.ref 2), some (.int (0 : Int32)), some (.int (0 : Int32)), none, none, none, none]) (st' := []) rfl ?_
  exact h4
theorem l0_25 (N : Nat) (sg : Nat → Int32) (x3 : Int32) (x4 : Int32)  (Q : Int32 → Wd → Prop) (h : (((x4 + (2 : Int32)) < (Int32.ofNat N)) → inb N x4 ∧ inb N (x4 + (1 : Int32)) ∧ inb N (x4 + (2 : Int32)) ∧ lalI PP QQ (some (N, sg)) 3 [.ref 1, .int ((sg (ix (x4 + (2 : Int32)))) &&& (15 : Int32)), .int x3] (W2 s t) (fun v12 w11 => ∃ s14, ∃ s15, w11 = W2 s14 s15 ∧ (((v12 = (0 : Int32)) → Q (0 : Int32) (W2 s14 s15)) ∧ (¬ (v12 = (0 : Int32)) → (((2 : Int32) < ((sg (ix x4)) &&& (7 : Int32))) → ((((sg (ix x4)) &&& (7 : Int32)) = (3 : Int32)) → wplI PP QQ (some (N, sg)) 0 lm0 134 [some (.ref 0), some (.ref 1), some (.ref 2), some (.int x3), some (.int x4), none, some (.int ((sg (ix (x4 + (1 : Int32)))) &&& (7 : Int32))), none, none] [] (W2 s14 s15) Q) ∧ (¬ (((sg (ix x4)) &&& (7 : Int32)) = (3 : Int32)) → ((((sg (ix x4)) &&& (7 : Int32)) = (7 : Int32)) → wplI PP QQ (some (N, sg)) 0 lm0 134 [some (.ref 0), some (.ref 1), some (.ref 2), some (.int x3), some (.int x4), none, some (.int ((sg (ix (x4 + (1 : Int32)))) &&& (7 : Int32))), none, none] [] (W2 s14 s15) Q) ∧ (¬ (((sg (ix x4)) &&& (7 : Int32)) = (7 : Int32)) → ((((sg (ix x4)) &&& (7 : Int32)) = (4 : Int32)) → calI PP 21 14 [.ref 0, .int (((sg (ix (x4 + (1 : Int32)))) &&& (7 : Int32)) % (6 : Int32))] s14 (fun v32 s31 => calI PP 21 14 [.ref 0, .int (((sg (ix (x4 + (1 : Int32)))) &&& (7 : Int32)) % (6 : Int32))] s15 (fun v35 s34 => ((v32 = v35) → wplI PP QQ (some (N, sg)) 0 lm0 239 [some (.ref 0), some (.ref 1), some (.ref 2), some (.int x3), some (.int x4), none, none, none, none] [] (W2 s31 s34) Q) ∧ (¬ (v32 = v35) → Q (0 : Int32) (W2 s31 s34))))) ∧ (¬ (((sg (ix x4)) &&& (7 : Int32)) = (4 : Int32)) → ((((sg (ix x4)) &&& (7 : Int32)) = (5 : Int32)) → calI PP 6 14 [.ref 0] s15 (fun v44 s43 => calI PP 6 14 [.ref 0] s14 (fun v47 s46 => ((v47 = v44) → ∀ m52, m52 = (if v44 < (0 : Int32) then x3 else (1 : Int32)) → (wplI PP QQ (some (N, sg)) 0 lm0 239 [some (.ref 0), some (.ref 1), some (.ref 2), some (.int m52), some (.int x4), none, none, none, none] [] (W2 s46 s43) Q)) ∧ (¬ (v47 = v44) → Q (0 : Int32) (W2 s46 s43))))) ∧ (¬ (((sg (ix x4)) &&& (7 : Int32)) = (5 : Int32)) → calI PP 22 14 [.ref 0] s14 (fun v57 s56 => calI PP 22 14 [.ref 0] s15 (fun v60 s59 => ((v57 = v60) → wplI PP QQ (some (N, sg)) 0 lm0 239 [some (.ref 0), some (.ref 1), some (.ref 2), some (.int x3), some (.int x4), none, none, none, none] [] (W2 s56 s59) Q) ∧ (¬ (v57 = v60) → Q (0 : Int32) (W2 s56 s59))))))))) ∧ (¬ ((2 : Int32) < ((sg (ix x4)) &&& (7 : Int32))) → ∀ m65, m65 = (if (4 : Int32) < ((sg (ix (x4 + (1 : Int32)))) &&& (7 : Int32)) then ((11 : Int32) + ((sg (ix (x4 + (1 : Int32)))) &&& (7 : Int32))) else ((sg (ix (x4 + (1 : Int32)))) &&& (7 : Int32))) → (calI PP 4 14 [.ref 0, .int m65] s14 (fun v69 s68 => calI PP 4 14 [.ref 0, .int m65] s15 (fun v72 s71 => ((v69 = v72) → wplI PP QQ (some (N, sg)) 0 lm0 239 [some (.ref 0), some (.ref 1), some (.ref 2), some (.int x3), some (.int x4), none, none, none, none] [] (W2 s68 s71) Q) ∧ (¬ (v69 = v72) → Q (0 : Int32) (W2 s68 s71)))))))))) ∧ (¬ ((x4 + (2 : Int32)) < (Int32.ofNat N)) → calI PP 6 14 [.ref 0] t (fun v79 s78 => calI PP 6 14 [.ref 0] s (fun v82 s81 => ((v82 = v79) → calI PP 6 14 [.ref 0] s81 (fun v88 s87 => ((v88 = (-1 : Int32)) → calI PP 22 14 [.ref 0] s78 (fun v94 s93 => calI PP 22 14 [.ref 0] s87 (fun v97 s96 => ((v97 = v94) → calI PP 22 14 [.ref 0] s96 (fun v103 s102 => ((v103 = (-1 : Int32)) → calI PP 21 14 [.ref 0, .int (3 : Int32)] s102 (fun v109 s108 => ((v109 = (0 : Int32)) → lalI PP QQ (some (N, sg)) 4 [.ref 1, .ref 2] (W2 s108 s93) (fun v115 w114 => ∃ s117, ∃ s118, w114 = W2 s117 s118 ∧ (Q (v115 &&& 1) (W2 s117 s118)))) ∧ (¬ (v109 = (0 : Int32)) → Q (0 : Int32) (W2 s108 s93)))) ∧ (¬ (v103 = (-1 : Int32)) → Q (0 : Int32) (W2 s102 s93)))) ∧ (¬ (v97 = v94) → Q (0 : Int32) (W2 s96 s93))))) ∧ (¬ (v88 = (-1 : Int32)) → Q (0 : Int32) (W2 s87 s78)))) ∧ (¬ (v82 = v79) → Q (0 : Int32) (W2 s81 s78)))))) : wplI PP QQ (some (N, sg)) 0 lm0 25 [some (.ref 0), some (.ref 1), some (.ref 2), some (.int x3), some (.int x4), none, none, none, none] [] (W2 s t) Q := by
  refine wpl_sl (n := 4) (pc' := 30) (ls' := [some (.ref 0), some (.ref 1), some (.ref 2), some (.int x3), some (.int x4), none, none, none, none]) (st' := [.ref 0, .int (x4 + (2 : Int32))]) rfl ?_
  refine wpl_len rfl ?_
  refine wpl_icmp (a := 245) (b := 34) rfl (by decide) rfl rfl (wpl_br (p := (x4 + (2 : Int32)) < (Int32.ofNat N)) ⟨fun hc5 => ?_, fun hc5 => ?_⟩)
  · have h6 := h.1 hc5
    refine wpl_sl (n := 2) (pc' := 37) (ls' := [some (.ref 0), some (.ref 1), some (.ref 2), some (.int x3), some (.int x4), none, none, none, none]) (st' := [.int x4, .ref 0]) rfl ?_
    refine wpl_lda rfl h6.1 ?_
    have h8 := h6.2
    refine wpl_sl (n := 7) (pc' := 48) (ls' := [some (.ref 0), some (.ref 1), some (.ref 2), some (.int x3), some (.int x4), some (.int ((sg (ix x4)) &&& (7 : Int32))), none, none, none]) (st' := [.int (x4 + (1 : Int32)), .ref 0]) rfl ?_
    refine wpl_lda rfl h8.1 ?_
    have h9 := h8.2
    refine wpl_sl (n := 7) (pc' := 59) (ls' := [some (.ref 0), some (.ref 1), some (.ref 2), some (.int x3), some (.int x4), some (.int ((sg (ix x4)) &&& (7 : Int32))), some (.int ((sg (ix (x4 + (1 : Int32)))) &&& (7 : Int32))), none, none]) (st' := [.int (x4 + (2 : Int32)), .ref 0]) rfl ?_
    refine wpl_lda rfl h9.1 ?_
    have h10 := h9.2
    refine wpl_sl (n := 6) (pc' := 69) (ls' := [some (.ref 0), some (.ref 1), some (.ref 2), some (.int x3), some (.int x4), some (.int ((sg (ix x4)) &&& (7 : Int32))), some (.int ((sg (ix (x4 + (1 : Int32)))) &&& (7 : Int32))), some (.int ((sg (ix (x4 + (2 : Int32)))) &&& (15 : Int32))), none]) (st' := [.int x3, .int ((sg (ix (x4 + (2 : Int32)))) &&& (15 : Int32)), .ref 1]) rfl ?_
    refine wpl_stat (m' := 3) (me' := lm3) (as := [.ref 1, .int ((sg (ix (x4 + (2 : Int32)))) &&& (15 : Int32)), .int x3]) (r := []) rfl rfl rfl rfl rfl ⟨(by first | decide | exact Nat.le_of_ble_eq_true rfl), (by first | decide | exact Nat.le_of_ble_eq_true rfl), (by first | decide | exact Nat.le_of_ble_eq_true rfl), (by first | decide | exact Nat.le_of_ble_eq_true rfl), rfl⟩ (lal_I (lalI.mono h10 fun v12 w11 hh => ?_))
    obtain ⟨s14, s15, rfl, h13⟩ := hh
    refine wpl_if (a := 77) (b := 75) rfl (by decide) rfl rfl (wpl_br (p := v12 = (0 : Int32)) ⟨fun hc16 => ?_, fun hc16 => ?_⟩)
    · have h17 := h13.1 hc16
      refine wpl_sl (n := 1) (pc' := 76) (ls' := [some (.ref 0), some (.ref 1), some (.ref 2), some (.int x3), some (.int x4), some (.int ((sg (ix x4)) &&& (7 : Int32))), some (.int ((sg (ix (x4 + (1 : Int32)))) &&& (7 : Int32))), some (.int ((sg (ix (x4 + (2 : Int32)))) &&& (15 : Int32))), none]) (st' := [.int (0 : Int32)]) rfl ?_
      exact wpl_ret rfl rfl rfl ⟨(0 : Int32), rfl, h17⟩
    · have h18 := h13.2 hc16
      refine wpl_sl (n := 2) (pc' := 80) (ls' := [some (.ref 0), some (.ref 1), some (.ref 2), some (.int x3), some (.int x4), some (.int ((sg (ix x4)) &&& (7 : Int32))), some (.int ((sg (ix (x4 + (1 : Int32)))) &&& (7 : Int32))), some (.int ((sg (ix (x4 + (2 : Int32)))) &&& (15 : Int32))), none]) (st' := [.int (2 : Int32), .int ((sg (ix x4)) &&& (7 : Int32))]) rfl ?_
      refine wpl_icmp (a := 121) (b := 83) rfl (by decide) rfl rfl (wpl_br (p := (2 : Int32) < ((sg (ix x4)) &&& (7 : Int32))) ⟨fun hc19 => ?_, fun hc19 => ?_⟩)
      · have h20 := h18.1 hc19
        refine wpl_sl (n := 2) (pc' := 124) (ls' := [some (.ref 0), some (.ref 1), some (.ref 2), some (.int x3), some (.int x4), some (.int ((sg (ix x4)) &&& (7 : Int32))), some (.int ((sg (ix (x4 + (1 : Int32)))) &&& (7 : Int32))), some (.int ((sg (ix (x4 + (2 : Int32)))) &&& (15 : Int32))), none]) (st' := [.int (3 : Int32), .int ((sg (ix x4)) &&& (7 : Int32))]) rfl ?_
        refine wpl_icmp (a := 134) (b := 127) rfl (by decide) rfl rfl (wpl_br (p := ((sg (ix x4)) &&& (7 : Int32)) = (3 : Int32)) ⟨fun hc22 => ?_, fun hc22 => ?_⟩)
        · have h23 := h20.1 hc22
          exact wpl_lle (ls := [some (.ref 0), some (.ref 1), some (.ref 2), some (.int x3), some (.int x4), none, some (.int ((sg (ix (x4 + (1 : Int32)))) &&& (7 : Int32))), none, none]) ⟨rfl, rfl, rfl, rfl, rfl, rfl, trivial⟩ h23
        · have h24 := h20.2 hc22
          refine wpl_sl (n := 2) (pc' := 131) (ls' := [some (.ref 0), some (.ref 1), some (.ref 2), some (.int x3), some (.int x4), some (.int ((sg (ix x4)) &&& (7 : Int32))), some (.int ((sg (ix (x4 + (1 : Int32)))) &&& (7 : Int32))), some (.int ((sg (ix (x4 + (2 : Int32)))) &&& (15 : Int32))), none]) (st' := [.int (7 : Int32), .int ((sg (ix x4)) &&& (7 : Int32))]) rfl ?_
          refine wpl_icmp (a := 160) (b := 134) rfl (by decide) rfl rfl (wpl_br (p := ((sg (ix x4)) &&& (7 : Int32)) = (7 : Int32)) ⟨fun hc25 => ?_, fun hc25 => ?_⟩)
          · have h26 := h24.1 hc25
            exact wpl_lle (ls := [some (.ref 0), some (.ref 1), some (.ref 2), some (.int x3), some (.int x4), none, some (.int ((sg (ix (x4 + (1 : Int32)))) &&& (7 : Int32))), none, none]) ⟨rfl, rfl, rfl, rfl, rfl, rfl, trivial⟩ h26
          · have h27 := h24.2 hc25
            refine wpl_sl (n := 2) (pc' := 163) (ls' := [some (.ref 0), some (.ref 1), some (.ref 2), some (.int x3), some (.int x4), some (.int ((sg (ix x4)) &&& (7 : Int32))), some (.int ((sg (ix (x4 + (1 : Int32)))) &&& (7 : Int32))), some (.int ((sg (ix (x4 + (2 : Int32)))) &&& (15 : Int32))), none]) (st' := [.int (4 : Int32), .int ((sg (ix x4)) &&& (7 : Int32))]) rfl ?_
            refine wpl_icmp (a := 193) (b := 166) rfl (by decide) rfl rfl (wpl_br (p := ((sg (ix x4)) &&& (7 : Int32)) = (4 : Int32)) ⟨fun hc28 => ?_, fun hc28 => ?_⟩)
            · have h29 := h27.1 hc28
              refine wpl_sl (n := 6) (pc' := 176) (ls' := [some (.ref 0), some (.ref 1), some (.ref 2), some (.int x3), some (.int x4), some (.int ((sg (ix x4)) &&& (7 : Int32))), some (.int ((sg (ix (x4 + (1 : Int32)))) &&& (7 : Int32))), some (.int ((sg (ix (x4 + (2 : Int32)))) &&& (15 : Int32))), some (.int (((sg (ix (x4 + (1 : Int32)))) &&& (7 : Int32)) % (6 : Int32)))]) (st' := [.int (((sg (ix (x4 + (1 : Int32)))) &&& (7 : Int32)) % (6 : Int32)), .ref 1]) rfl ?_
              refine wpl_v2a (m' := 21) (me' := cm21) (as := [.int (((sg (ix (x4 + (1 : Int32)))) &&& (7 : Int32)) % (6 : Int32))]) (r := []) rfl rfl rfl rfl rfl ⟨by decide, (by first | decide | exact Nat.le_of_ble_eq_true rfl), (by first | decide | exact Nat.le_of_ble_eq_true rfl), rfl⟩ (cal_I (calI.mono h29 fun v32 s31 h33 => ?_))
              refine wpl_sl (n := 2) (pc' := 182) (ls' := [some (.ref 0), some (.ref 1), some (.ref 2), some (.int x3), some (.int x4), some (.int ((sg (ix x4)) &&& (7 : Int32))), some (.int ((sg (ix (x4 + (1 : Int32)))) &&& (7 : Int32))), some (.int ((sg (ix (x4 + (2 : Int32)))) &&& (15 : Int32))), some (.int (((sg (ix (x4 + (1 : Int32)))) &&& (7 : Int32)) % (6 : Int32)))]) (st' := [.int (((sg (ix (x4 + (1 : Int32)))) &&& (7 : Int32)) % (6 : Int32)), .ref 2, .int v32]) rfl ?_
              refine wpl_v2b (m' := 21) (me' := cm21) (as := [.int (((sg (ix (x4 + (1 : Int32)))) &&& (7 : Int32)) % (6 : Int32))]) (r := [.int v32]) rfl rfl rfl rfl rfl ⟨by decide, (by first | decide | exact Nat.le_of_ble_eq_true rfl), (by first | decide | exact Nat.le_of_ble_eq_true rfl), rfl⟩ (cal_I (calI.mono h33 fun v35 s34 h36 => ?_))
              refine wpl_icmp (a := 190) (b := 188) rfl (by decide) rfl rfl (wpl_br (p := v32 = v35) ⟨fun hc37 => ?_, fun hc37 => ?_⟩)
              · have h38 := h36.1 hc37
                refine wpl_sl (n := 1) (pc' := 239) (ls' := [some (.ref 0), some (.ref 1), some (.ref 2), some (.int x3), some (.int x4), some (.int ((sg (ix x4)) &&& (7 : Int32))), some (.int ((sg (ix (x4 + (1 : Int32)))) &&& (7 : Int32))), some (.int ((sg (ix (x4 + (2 : Int32)))) &&& (15 : Int32))), some (.int (((sg (ix (x4 + (1 : Int32)))) &&& (7 : Int32)) % (6 : Int32)))]) (st' := []) rfl ?_
                exact wpl_lle (ls := [some (.ref 0), some (.ref 1), some (.ref 2), some (.int x3), some (.int x4), none, none, none, none]) ⟨rfl, rfl, rfl, rfl, rfl, trivial⟩ h38
              · have h39 := h36.2 hc37
                refine wpl_sl (n := 1) (pc' := 189) (ls' := [some (.ref 0), some (.ref 1), some (.ref 2), some (.int x3), some (.int x4), some (.int ((sg (ix x4)) &&& (7 : Int32))), some (.int ((sg (ix (x4 + (1 : Int32)))) &&& (7 : Int32))), some (.int ((sg (ix (x4 + (2 : Int32)))) &&& (15 : Int32))), some (.int (((sg (ix (x4 + (1 : Int32)))) &&& (7 : Int32)) % (6 : Int32)))]) (st' := [.int (0 : Int32)]) rfl ?_
                exact wpl_ret rfl rfl rfl ⟨(0 : Int32), rfl, h39⟩
            · have h30 := h27.2 hc28
              refine wpl_sl (n := 2) (pc' := 196) (ls' := [some (.ref 0), some (.ref 1), some (.ref 2), some (.int x3), some (.int x4), some (.int ((sg (ix x4)) &&& (7 : Int32))), some (.int ((sg (ix (x4 + (1 : Int32)))) &&& (7 : Int32))), some (.int ((sg (ix (x4 + (2 : Int32)))) &&& (15 : Int32))), none]) (st' := [.int (5 : Int32), .int ((sg (ix x4)) &&& (7 : Int32))]) rfl ?_
              refine wpl_icmp (a := 226) (b := 199) rfl (by decide) rfl rfl (wpl_br (p := ((sg (ix x4)) &&& (7 : Int32)) = (5 : Int32)) ⟨fun hc40 => ?_, fun hc40 => ?_⟩)
              · have h41 := h30.1 hc40
                refine wpl_sl (n := 1) (pc' := 200) (ls' := [some (.ref 0), some (.ref 1), some (.ref 2), some (.int x3), some (.int x4), some (.int ((sg (ix x4)) &&& (7 : Int32))), some (.int ((sg (ix (x4 + (1 : Int32)))) &&& (7 : Int32))), some (.int ((sg (ix (x4 + (2 : Int32)))) &&& (15 : Int32))), none]) (st' := [.ref 2]) rfl ?_
                refine wpl_v2b (m' := 6) (me' := cm6) (as := []) (r := []) rfl rfl rfl rfl rfl ⟨by decide, (by first | decide | exact Nat.le_of_ble_eq_true rfl), (by first | decide | exact Nat.le_of_ble_eq_true rfl), rfl⟩ (cal_I (calI.mono h41 fun v44 s43 h45 => ?_))
                refine wpl_sl (n := 2) (pc' := 206) (ls' := [some (.ref 0), some (.ref 1), some (.ref 2), some (.int x3), some (.int x4), some (.int ((sg (ix x4)) &&& (7 : Int32))), some (.int ((sg (ix (x4 + (1 : Int32)))) &&& (7 : Int32))), some (.int ((sg (ix (x4 + (2 : Int32)))) &&& (15 : Int32))), some (.int v44)]) (st' := [.ref 1]) rfl ?_
                refine wpl_v2a (m' := 6) (me' := cm6) (as := []) (r := []) rfl rfl rfl rfl rfl ⟨by decide, (by first | decide | exact Nat.le_of_ble_eq_true rfl), (by first | decide | exact Nat.le_of_ble_eq_true rfl), rfl⟩ (cal_I (calI.mono h45 fun v47 s46 h48 => ?_))
                refine wpl_sl (n := 1) (pc' := 211) (ls' := [some (.ref 0), some (.ref 1), some (.ref 2), some (.int x3), some (.int x4), some (.int ((sg (ix x4)) &&& (7 : Int32))), some (.int ((sg (ix (x4 + (1 : Int32)))) &&& (7 : Int32))), some (.int ((sg (ix (x4 + (2 : Int32)))) &&& (15 : Int32))), some (.int v44)]) (st' := [.int v44, .int v47]) rfl ?_
                refine wpl_icmp (a := 216) (b := 214) rfl (by decide) rfl rfl (wpl_br (p := v47 = v44) ⟨fun hc49 => ?_, fun hc49 => ?_⟩)
                · have h50 := h48.1 hc49
                  refine wpl_sl (n := 1) (pc' := 218) (ls' := [some (.ref 0), some (.ref 1), some (.ref 2), some (.int x3), some (.int x4), some (.int ((sg (ix x4)) &&& (7 : Int32))), some (.int ((sg (ix (x4 + (1 : Int32)))) &&& (7 : Int32))), some (.int ((sg (ix (x4 + (2 : Int32)))) &&& (15 : Int32))), some (.int v44)]) (st' := [.int v44]) rfl ?_
                  have hm53 : ∀ m52, m52 = (if v44 < (0 : Int32) then x3 else (1 : Int32)) → wplI PP QQ (some (N, sg)) 0 lm0 223 [some (.ref 0), some (.ref 1), some (.ref 2), some (.int m52), some (.int x4), some (.int ((sg (ix x4)) &&& (7 : Int32))), some (.int ((sg (ix (x4 + (1 : Int32)))) &&& (7 : Int32))), some (.int ((sg (ix (x4 + (2 : Int32)))) &&& (15 : Int32))), some (.int v44)] [] (W2 s46 s43) Q := by
                    intro m52 em52
                    have h54 := h50 m52 em52
                    refine wpl_sl (n := 1) (pc' := 239) (ls' := [some (.ref 0), some (.ref 1), some (.ref 2), some (.int m52), some (.int x4), some (.int ((sg (ix x4)) &&& (7 : Int32))), some (.int ((sg (ix (x4 + (1 : Int32)))) &&& (7 : Int32))), some (.int ((sg (ix (x4 + (2 : Int32)))) &&& (15 : Int32))), some (.int v44)]) (st' := []) rfl ?_
                    exact wpl_lle (ls := [some (.ref 0), some (.ref 1), some (.ref 2), some (.int m52), some (.int x4), none, none, none, none]) ⟨rfl, rfl, rfl, rfl, rfl, trivial⟩ h54
                  refine wpl_if (a := 223) (b := 221) rfl (by decide) rfl rfl (wpl_br (p := v44 < (0 : Int32)) ⟨fun hc55 => ?_, fun hc55 => ?_⟩)
                  · first | exact hm53 _ (by simp only [if_pos hc55]) | exact wpl_lle (by repeat (first | exact trivial | refine ⟨rfl, ?_⟩)) (hm53 _ (by simp only [if_pos hc55]))
                  · refine wpl_sl (n := 2) (pc' := 223) (ls' := [some (.ref 0), some (.ref 1), some (.ref 2), some (.int (1 : Int32)), some (.int x4), some (.int ((sg (ix x4)) &&& (7 : Int32))), some (.int ((sg (ix (x4 + (1 : Int32)))) &&& (7 : Int32))), some (.int ((sg (ix (x4 + (2 : Int32)))) &&& (15 : Int32))), some (.int v44)]) (st' := []) rfl ?_
                    first | exact hm53 _ (by simp only [if_neg hc55]) | exact wpl_lle (by repeat (first | exact trivial | refine ⟨rfl, ?_⟩)) (hm53 _ (by simp only [if_neg hc55]))
                · have h51 := h48.2 hc49
                  refine wpl_sl (n := 1) (pc' := 215) (ls' := [some (.ref 0), some (.ref 1), some (.ref 2), some (.int x3), some (.int x4), some (.int ((sg (ix x4)) &&& (7 : Int32))), some (.int ((sg (ix (x4 + (1 : Int32)))) &&& (7 : Int32))), some (.int ((sg (ix (x4 + (2 : Int32)))) &&& (15 : Int32))), some (.int v44)]) (st' := [.int (0 : Int32)]) rfl ?_
                  exact wpl_ret rfl rfl rfl ⟨(0 : Int32), rfl, h51⟩
              · have h42 := h30.2 hc40
                refine wpl_sl (n := 1) (pc' := 227) (ls' := [some (.ref 0), some (.ref 1), some (.ref 2), some (.int x3), some (.int x4), some (.int ((sg (ix x4)) &&& (7 : Int32))), some (.int ((sg (ix (x4 + (1 : Int32)))) &&& (7 : Int32))), some (.int ((sg (ix (x4 + (2 : Int32)))) &&& (15 : Int32))), none]) (st' := [.ref 1]) rfl ?_
                refine wpl_v2a (m' := 22) (me' := cm22) (as := []) (r := []) rfl rfl rfl rfl rfl ⟨by decide, (by first | decide | exact Nat.le_of_ble_eq_true rfl), (by first | decide | exact Nat.le_of_ble_eq_true rfl), rfl⟩ (cal_I (calI.mono h42 fun v57 s56 h58 => ?_))
                refine wpl_sl (n := 1) (pc' := 231) (ls' := [some (.ref 0), some (.ref 1), some (.ref 2), some (.int x3), some (.int x4), some (.int ((sg (ix x4)) &&& (7 : Int32))), some (.int ((sg (ix (x4 + (1 : Int32)))) &&& (7 : Int32))), some (.int ((sg (ix (x4 + (2 : Int32)))) &&& (15 : Int32))), none]) (st' := [.ref 2, .int v57]) rfl ?_
                refine wpl_v2b (m' := 22) (me' := cm22) (as := []) (r := [.int v57]) rfl rfl rfl rfl rfl ⟨by decide, (by first | decide | exact Nat.le_of_ble_eq_true rfl), (by first | decide | exact Nat.le_of_ble_eq_true rfl), rfl⟩ (cal_I (calI.mono h58 fun v60 s59 h61 => ?_))
                refine wpl_icmp (a := 239) (b := 237) rfl (by decide) rfl rfl (wpl_br (p := v57 = v60) ⟨fun hc62 => ?_, fun hc62 => ?_⟩)
                · have h63 := h61.1 hc62
                  exact wpl_lle (ls := [some (.ref 0), some (.ref 1), some (.ref 2), some (.int x3), some (.int x4), none, none, none, none]) ⟨rfl, rfl, rfl, rfl, rfl, trivial⟩ h63
                · have h64 := h61.2 hc62
                  refine wpl_sl (n := 1) (pc' := 238) (ls' := [some (.ref 0), some (.ref 1), some (.ref 2), some (.int x3), some (.int x4), some (.int ((sg (ix x4)) &&& (7 : Int32))), some (.int ((sg (ix (x4 + (1 : Int32)))) &&& (7 : Int32))), some (.int ((sg (ix (x4 + (2 : Int32)))) &&& (15 : Int32))), none]) (st' := [.int (0 : Int32)]) rfl ?_
                  exact wpl_ret rfl rfl rfl ⟨(0 : Int32), rfl, h64⟩
      · have h21 := h18.2 hc19
        refine wpl_sl (n := 2) (pc' := 86) (ls' := [some (.ref 0), some (.ref 1), some (.ref 2), some (.int x3), some (.int x4), some (.int ((sg (ix x4)) &&& (7 : Int32))), some (.int ((sg (ix (x4 + (1 : Int32)))) &&& (7 : Int32))), some (.int ((sg (ix (x4 + (2 : Int32)))) &&& (15 : Int32))), none]) (st' := [.int (4 : Int32), .int ((sg (ix (x4 + (1 : Int32)))) &&& (7 : Int32))]) rfl ?_
        have hm66 : ∀ m65, m65 = (if (4 : Int32) < ((sg (ix (x4 + (1 : Int32)))) &&& (7 : Int32)) then ((11 : Int32) + ((sg (ix (x4 + (1 : Int32)))) &&& (7 : Int32))) else ((sg (ix (x4 + (1 : Int32)))) &&& (7 : Int32))) → wplI PP QQ (some (N, sg)) 0 lm0 99 [some (.ref 0), some (.ref 1), some (.ref 2), some (.int x3), some (.int x4), some (.int ((sg (ix x4)) &&& (7 : Int32))), some (.int ((sg (ix (x4 + (1 : Int32)))) &&& (7 : Int32))), some (.int ((sg (ix (x4 + (2 : Int32)))) &&& (15 : Int32))), none] [.int m65] (W2 s14 s15) Q := by
          intro m65 em65
          have h67 := h21 m65 em65
          refine wpl_sl (n := 3) (pc' := 104) (ls' := [some (.ref 0), some (.ref 1), some (.ref 2), some (.int x3), some (.int x4), some (.int ((sg (ix x4)) &&& (7 : Int32))), some (.int ((sg (ix (x4 + (1 : Int32)))) &&& (7 : Int32))), some (.int ((sg (ix (x4 + (2 : Int32)))) &&& (15 : Int32))), some (.int m65)]) (st' := [.int m65, .ref 1]) rfl ?_
          refine wpl_v2a (m' := 4) (me' := cm4) (as := [.int m65]) (r := []) rfl rfl rfl rfl rfl ⟨by decide, (by first | decide | exact Nat.le_of_ble_eq_true rfl), (by first | decide | exact Nat.le_of_ble_eq_true rfl), rfl⟩ (cal_I (calI.mono h67 fun v69 s68 h70 => ?_))
          refine wpl_sl (n := 2) (pc' := 110) (ls' := [some (.ref 0), some (.ref 1), some (.ref 2), some (.int x3), some (.int x4), some (.int ((sg (ix x4)) &&& (7 : Int32))), some (.int ((sg (ix (x4 + (1 : Int32)))) &&& (7 : Int32))), some (.int ((sg (ix (x4 + (2 : Int32)))) &&& (15 : Int32))), some (.int m65)]) (st' := [.int m65, .ref 2, .int v69]) rfl ?_
          refine wpl_v2b (m' := 4) (me' := cm4) (as := [.int m65]) (r := [.int v69]) rfl rfl rfl rfl rfl ⟨by decide, (by first | decide | exact Nat.le_of_ble_eq_true rfl), (by first | decide | exact Nat.le_of_ble_eq_true rfl), rfl⟩ (cal_I (calI.mono h70 fun v72 s71 h73 => ?_))
          refine wpl_icmp (a := 118) (b := 116) rfl (by decide) rfl rfl (wpl_br (p := v69 = v72) ⟨fun hc74 => ?_, fun hc74 => ?_⟩)
          · have h75 := h73.1 hc74
            refine wpl_sl (n := 1) (pc' := 239) (ls' := [some (.ref 0), some (.ref 1), some (.ref 2), some (.int x3), some (.int x4), some (.int ((sg (ix x4)) &&& (7 : Int32))), some (.int ((sg (ix (x4 + (1 : Int32)))) &&& (7 : Int32))), some (.int ((sg (ix (x4 + (2 : Int32)))) &&& (15 : Int32))), some (.int m65)]) (st' := []) rfl ?_
            exact wpl_lle (ls := [some (.ref 0), some (.ref 1), some (.ref 2), some (.int x3), some (.int x4), none, none, none, none]) ⟨rfl, rfl, rfl, rfl, rfl, trivial⟩ h75
          · have h76 := h73.2 hc74
            refine wpl_sl (n := 1) (pc' := 117) (ls' := [some (.ref 0), some (.ref 1), some (.ref 2), some (.int x3), some (.int x4), some (.int ((sg (ix x4)) &&& (7 : Int32))), some (.int ((sg (ix (x4 + (1 : Int32)))) &&& (7 : Int32))), some (.int ((sg (ix (x4 + (2 : Int32)))) &&& (15 : Int32))), some (.int m65)]) (st' := [.int (0 : Int32)]) rfl ?_
            exact wpl_ret rfl rfl rfl ⟨(0 : Int32), rfl, h76⟩
        refine wpl_icmp (a := 94) (b := 89) rfl (by decide) rfl rfl (wpl_br (p := (4 : Int32) < ((sg (ix (x4 + (1 : Int32)))) &&& (7 : Int32))) ⟨fun hc77 => ?_, fun hc77 => ?_⟩)
        · refine wpl_sl (n := 3) (pc' := 99) (ls' := [some (.ref 0), some (.ref 1), some (.ref 2), some (.int x3), some (.int x4), some (.int ((sg (ix x4)) &&& (7 : Int32))), some (.int ((sg (ix (x4 + (1 : Int32)))) &&& (7 : Int32))), some (.int ((sg (ix (x4 + (2 : Int32)))) &&& (15 : Int32))), none]) (st' := [.int ((11 : Int32) + ((sg (ix (x4 + (1 : Int32)))) &&& (7 : Int32)))]) rfl ?_
          first | exact hm66 _ (by simp only [if_pos hc77]) | exact wpl_lle (by repeat (first | exact trivial | refine ⟨rfl, ?_⟩)) (hm66 _ (by simp only [if_pos hc77]))
        · refine wpl_sl (n := 2) (pc' := 99) (ls' := [some (.ref 0), some (.ref 1), some (.ref 2), some (.int x3), some (.int x4), some (.int ((sg (ix x4)) &&& (7 : Int32))), some (.int ((sg (ix (x4 + (1 : Int32)))) &&& (7 : Int32))), some (.int ((sg (ix (x4 + (2 : Int32)))) &&& (15 : Int32))), none]) (st' := [.int ((sg (ix (x4 + (1 : Int32)))) &&& (7 : Int32))]) rfl ?_
          first | exact hm66 _ (by simp only [if_neg hc77]) | exact wpl_lle (by repeat (first | exact trivial | refine ⟨rfl, ?_⟩)) (hm66 _ (by simp only [if_neg hc77]))
  · have h7 := h.2 hc5
    refine wpl_sl (n := 1) (pc' := 246) (ls' := [some (.ref 0), some (.ref 1), some (.ref 2), some (.int x3), some (.int x4), none, none, none, none]) (st' := [.ref 2]) rfl ?_
    refine wpl_v2b (m' := 6) (me' := cm6) (as := []) (r := []) rfl rfl rfl rfl rfl ⟨by decide, (by first | decide | exact Nat.le_of_ble_eq_true rfl), (by first | decide | exact Nat.le_of_ble_eq_true rfl), rfl⟩ (cal_I (calI.mono h7 fun v79 s78 h80 => ?_))
    refine wpl_sl (n := 2) (pc' := 252) (ls' := [some (.ref 0), some (.ref 1), some (.ref 2), some (.int x3), some (.int v79), none, none, none, none]) (st' := [.ref 1]) rfl ?_
    refine wpl_v2a (m' := 6) (me' := cm6) (as := []) (r := []) rfl rfl rfl rfl rfl ⟨by decide, (by first | decide | exact Nat.le_of_ble_eq_true rfl), (by first | decide | exact Nat.le_of_ble_eq_true rfl), rfl⟩ (cal_I (calI.mono h80 fun v82 s81 h83 => ?_))
    refine wpl_sl (n := 1) (pc' := 257) (ls' := [some (.ref 0), some (.ref 1), some (.ref 2), some (.int x3), some (.int v79), none, none, none, none]) (st' := [.int v79, .int v82]) rfl ?_
    refine wpl_icmp (a := 262) (b := 260) rfl (by decide) rfl rfl (wpl_br (p := v82 = v79) ⟨fun hc84 => ?_, fun hc84 => ?_⟩)
    · have h85 := h83.1 hc84
      refine wpl_sl (n := 1) (pc' := 263) (ls' := [some (.ref 0), some (.ref 1), some (.ref 2), some (.int x3), some (.int v79), none, none, none, none]) (st' := [.ref 1]) rfl ?_
      refine wpl_v2a (m' := 6) (me' := cm6) (as := []) (r := []) rfl rfl rfl rfl rfl ⟨by decide, (by first | decide | exact Nat.le_of_ble_eq_true rfl), (by first | decide | exact Nat.le_of_ble_eq_true rfl), rfl⟩ (cal_I (calI.mono h85 fun v88 s87 h89 => ?_))
      refine wpl_sl (n := 1) (pc' := 267) (ls' := [some (.ref 0), some (.ref 1), some (.ref 2), some (.int x3), some (.int v79), none, none, none, none]) (st' := [.int (-1 : Int32), .int v88]) rfl ?_
      refine wpl_icmp (a := 272) (b := 270) rfl (by decide) rfl rfl (wpl_br (p := v88 = (-1 : Int32)) ⟨fun hc90 => ?_, fun hc90 => ?_⟩)
      · have h91 := h89.1 hc90
        refine wpl_sl (n := 1) (pc' := 273) (ls' := [some (.ref 0), some (.ref 1), some (.ref 2), some (.int x3), some (.int v79), none, none, none, none]) (st' := [.ref 2]) rfl ?_
        refine wpl_v2b (m' := 22) (me' := cm22) (as := []) (r := []) rfl rfl rfl rfl rfl ⟨by decide, (by first | decide | exact Nat.le_of_ble_eq_true rfl), (by first | decide | exact Nat.le_of_ble_eq_true rfl), rfl⟩ (cal_I (calI.mono h91 fun v94 s93 h95 => ?_))
        refine wpl_sl (n := 2) (pc' := 279) (ls' := [some (.ref 0), some (.ref 1), some (.ref 2), some (.int x3), some (.int v79), some (.int v94), none, none, none]) (st' := [.ref 1]) rfl ?_
        refine wpl_v2a (m' := 22) (me' := cm22) (as := []) (r := []) rfl rfl rfl rfl rfl ⟨by decide, (by first | decide | exact Nat.le_of_ble_eq_true rfl), (by first | decide | exact Nat.le_of_ble_eq_true rfl), rfl⟩ (cal_I (calI.mono h95 fun v97 s96 h98 => ?_))
        refine wpl_sl (n := 1) (pc' := 284) (ls' := [some (.ref 0), some (.ref 1), some (.ref 2), some (.int x3), some (.int v79), some (.int v94), none, none, none]) (st' := [.int v94, .int v97]) rfl ?_
        refine wpl_icmp (a := 289) (b := 287) rfl (by decide) rfl rfl (wpl_br (p := v97 = v94) ⟨fun hc99 => ?_, fun hc99 => ?_⟩)
        · have h100 := h98.1 hc99
          refine wpl_sl (n := 1) (pc' := 290) (ls' := [some (.ref 0), some (.ref 1), some (.ref 2), some (.int x3), some (.int v79), some (.int v94), none, none, none]) (st' := [.ref 1]) rfl ?_
          refine wpl_v2a (m' := 22) (me' := cm22) (as := []) (r := []) rfl rfl rfl rfl rfl ⟨by decide, (by first | decide | exact Nat.le_of_ble_eq_true rfl), (by first | decide | exact Nat.le_of_ble_eq_true rfl), rfl⟩ (cal_I (calI.mono h100 fun v103 s102 h104 => ?_))
          refine wpl_sl (n := 1) (pc' := 294) (ls' := [some (.ref 0), some (.ref 1), some (.ref 2), some (.int x3), some (.int v79), some (.int v94), none, none, none]) (st' := [.int (-1 : Int32), .int v103]) rfl ?_
          refine wpl_icmp (a := 305) (b := 297) rfl (by decide) rfl rfl (wpl_br (p := v103 = (-1 : Int32)) ⟨fun hc105 => ?_, fun hc105 => ?_⟩)
          · have h106 := h104.1 hc105
            refine wpl_sl (n := 2) (pc' := 299) (ls' := [some (.ref 0), some (.ref 1), some (.ref 2), some (.int x3), some (.int v79), some (.int v94), none, none, none]) (st' := [.int (3 : Int32), .ref 1]) rfl ?_
            refine wpl_v2a (m' := 21) (me' := cm21) (as := [.int (3 : Int32)]) (r := []) rfl rfl rfl rfl rfl ⟨by decide, (by first | decide | exact Nat.le_of_ble_eq_true rfl), (by first | decide | exact Nat.le_of_ble_eq_true rfl), rfl⟩ (cal_I (calI.mono h106 fun v109 s108 h110 => ?_))
            refine wpl_if (a := 307) (b := 305) rfl (by decide) rfl rfl (wpl_br (p := v109 = (0 : Int32)) ⟨fun hc111 => ?_, fun hc111 => ?_⟩)
            · have h112 := h110.1 hc111
              refine wpl_sl (n := 2) (pc' := 309) (ls' := [some (.ref 0), some (.ref 1), some (.ref 2), some (.int x3), some (.int v79), some (.int v94), none, none, none]) (st' := [.ref 2, .ref 1]) rfl ?_
              refine wpl_stat (m' := 4) (me' := lm4) (as := [.ref 1, .ref 2]) (r := []) rfl rfl rfl rfl rfl ⟨(by first | decide | exact Nat.le_of_ble_eq_true rfl), (by first | decide | exact Nat.le_of_ble_eq_true rfl), (by first | decide | exact Nat.le_of_ble_eq_true rfl), (by first | decide | exact Nat.le_of_ble_eq_true rfl), rfl⟩ (lal_I (lalI.mono h112 fun v115 w114 hh => ?_))
              obtain ⟨s117, s118, rfl, h116⟩ := hh
              exact wpl_ret rfl rfl rfl ⟨(v115 &&& 1), rfl, h116⟩
            · have h113 := h110.2 hc111
              refine wpl_sl (n := 1) (pc' := 306) (ls' := [some (.ref 0), some (.ref 1), some (.ref 2), some (.int x3), some (.int v79), some (.int v94), none, none, none]) (st' := [.int (0 : Int32)]) rfl ?_
              exact wpl_ret rfl rfl rfl ⟨(0 : Int32), rfl, h113⟩
          · have h107 := h104.2 hc105
            refine wpl_sl (n := 1) (pc' := 306) (ls' := [some (.ref 0), some (.ref 1), some (.ref 2), some (.int x3), some (.int v79), some (.int v94), none, none, none]) (st' := [.int (0 : Int32)]) rfl ?_
            exact wpl_ret rfl rfl rfl ⟨(0 : Int32), rfl, h107⟩
        · have h101 := h98.2 hc99
          refine wpl_sl (n := 1) (pc' := 288) (ls' := [some (.ref 0), some (.ref 1), some (.ref 2), some (.int x3), some (.int v79), some (.int v94), none, none, none]) (st' := [.int (0 : Int32)]) rfl ?_
          exact wpl_ret rfl rfl rfl ⟨(0 : Int32), rfl, h101⟩
      · have h92 := h89.2 hc90
        refine wpl_sl (n := 1) (pc' := 271) (ls' := [some (.ref 0), some (.ref 1), some (.ref 2), some (.int x3), some (.int v79), none, none, none, none]) (st' := [.int (0 : Int32)]) rfl ?_
        exact wpl_ret rfl rfl rfl ⟨(0 : Int32), rfl, h92⟩
    · have h86 := h83.2 hc84
      refine wpl_sl (n := 1) (pc' := 261) (ls' := [some (.ref 0), some (.ref 1), some (.ref 2), some (.int x3), some (.int v79), none, none, none, none]) (st' := [.int (0 : Int32)]) rfl ?_
      exact wpl_ret rfl rfl rfl ⟨(0 : Int32), rfl, h86⟩
theorem l0_134 (N : Nat) (sg : Nat → Int32) (x3 : Int32) (x4 : Int32) (x6 : Int32)  (Q : Int32 → Wd → Prop) (h : calI PP 3 14 [.ref 0, .int (x6 &&& (3 : Int32))] s (fun v120 s119 => calI PP 3 14 [.ref 0, .int (x6 &&& (3 : Int32))] t (fun v123 s122 => ((v120 = v123) → wplI PP QQ (some (N, sg)) 0 lm0 239 [some (.ref 0), some (.ref 1), some (.ref 2), some (.int x3), some (.int x4), none, none, none, none] [] (W2 s119 s122) Q) ∧ (¬ (v120 = v123) → Q (0 : Int32) (W2 s119 s122))))) : wplI PP QQ (some (N, sg)) 0 lm0 134 [some (.ref 0), some (.ref 1), some (.ref 2), some (.int x3), some (.int x4), none, some (.int x6), none, none] [] (W2 s t) Q := by
  refine wpl_sl (n := 6) (pc' := 143) (ls' := [some (.ref 0), some (.ref 1), some (.ref 2), some (.int x3), some (.int x4), none, some (.int x6), none, some (.int (x6 &&& (3 : Int32)))]) (st' := [.int (x6 &&& (3 : Int32)), .ref 1]) rfl ?_
  refine wpl_v2a (m' := 3) (me' := cm3) (as := [.int (x6 &&& (3 : Int32))]) (r := []) rfl rfl rfl rfl rfl ⟨by decide, (by first | decide | exact Nat.le_of_ble_eq_true rfl), (by first | decide | exact Nat.le_of_ble_eq_true rfl), rfl⟩ (cal_I (calI.mono h fun v120 s119 h121 => ?_))
  refine wpl_sl (n := 2) (pc' := 149) (ls' := [some (.ref 0), some (.ref 1), some (.ref 2), some (.int x3), some (.int x4), none, some (.int x6), none, some (.int (x6 &&& (3 : Int32)))]) (st' := [.int (x6 &&& (3 : Int32)), .ref 2, .int v120]) rfl ?_
  refine wpl_v2b (m' := 3) (me' := cm3) (as := [.int (x6 &&& (3 : Int32))]) (r := [.int v120]) rfl rfl rfl rfl rfl ⟨by decide, (by first | decide | exact Nat.le_of_ble_eq_true rfl), (by first | decide | exact Nat.le_of_ble_eq_true rfl), rfl⟩ (cal_I (calI.mono h121 fun v123 s122 h124 => ?_))
  refine wpl_icmp (a := 157) (b := 155) rfl (by decide) rfl rfl (wpl_br (p := v120 = v123) ⟨fun hc125 => ?_, fun hc125 => ?_⟩)
  · have h126 := h124.1 hc125
    refine wpl_sl (n := 1) (pc' := 239) (ls' := [some (.ref 0), some (.ref 1), some (.ref 2), some (.int x3), some (.int x4), none, some (.int x6), none, some (.int (x6 &&& (3 : Int32)))]) (st' := []) rfl ?_
    exact wpl_lle (ls := [some (.ref 0), some (.ref 1), some (.ref 2), some (.int x3), some (.int x4), none, none, none, none]) ⟨rfl, rfl, rfl, rfl, rfl, trivial⟩ h126
  · have h127 := h124.2 hc125
    refine wpl_sl (n := 1) (pc' := 156) (ls' := [some (.ref 0), some (.ref 1), some (.ref 2), some (.int x3), some (.int x4), none, some (.int x6), none, some (.int (x6 &&& (3 : Int32)))]) (st' := [.int (0 : Int32)]) rfl ?_
    exact wpl_ret rfl rfl rfl ⟨(0 : Int32), rfl, h127⟩
theorem l0_239 (N : Nat) (sg : Nat → Int32) (x3 : Int32) (x4 : Int32)  (Q : Int32 → Wd → Prop) (h : wplI PP QQ (some (N, sg)) 0 lm0 25 [some (.ref 0), some (.ref 1), some (.ref 2), some (.int x3), some (.int (x4 + (3 : Int32))), none, none, none, none] [] (W2 s t) Q) : wplI PP QQ (some (N, sg)) 0 lm0 239 [some (.ref 0), some (.ref 1), some (.ref 2), some (.int x3), some (.int x4), none, none, none, none] [] (W2 s t) Q := by
  refine wpl_sl (n := 2) (pc' := 25) (ls' := [some (.ref 0), some (.ref 1), some (.ref 2), some (.int x3), some (.int (x4 + (3 : Int32))), none, none, none, none]) (st' := []) rfl ?_
  exact h
/-! the ranges that keep every index of the parser inside (three nonterminals, four terminals) -/
def own_Y (b p : Int32) (s : St) : Prop := gI s 0 15 = 3 ∧ gI s 0 16 = 4 ∧ (0 ≤ (gI s 0 17).toInt ∧ (gI s 0 17).toInt ≤ 16) ∧ (0 ≤ (gI s 0 18).toInt ∧ (gI s 0 18).toInt ≤ 32) ∧ (0 ≤ (gI s 0 19).toInt ∧ (gI s 0 19).toInt ≤ 256) ∧ (0 ≤ (gI s 0 20).toInt ∧ (gI s 0 20).toInt ≤ 256) ∧ (0 ≤ (gI s 0 22).toInt ∧ (gI s 0 22).toInt ≤ 256) ∧ (0 ≤ (gI s 0 23).toInt ∧ (gI s 0 23).toInt ≤ 1000000) ∧ (∀ r, 0 ≤ (gI s 1 r).toInt ∧ (gI s 1 r).toInt ≤ 2) ∧ (∀ r, 0 ≤ (gI s 2 r).toInt ∧ (gI s 2 r).toInt ≤ 6) ∧ (∀ k, 0 ≤ (gI s 3 k).toInt ∧ (gI s 3 k).toInt ≤ 18) ∧ (∀ k, -1 ≤ (gI s 7 k).toInt ∧ (gI s 7 k).toInt ≤ 15) ∧ (∀ k, 0 ≤ (gI s 9 k).toInt ∧ (gI s 9 k).toInt ≤ 4) ∧ (∀ k, 0 ≤ (gI s 10 k).toInt ∧ (gI s 10 k).toInt ≤ 18) ∧ (∀ k, 0 ≤ (gI s 13 k).toInt ∧ (gI s 13 k).toInt ≤ 255) ∧ gI s 0 24 = b ∧ gI s 0 25 = p
/-- what does not matter for the ranges -/
theorem own_Y_cg {bb pp : Int32} {s t : St} (Y : own_Y bb pp s) (h : ∀ c j, c ≠ 4 → c ≠ 5 → c ≠ 6 → c ≠ 8 → c ≠ 11 → c ≠ 12 → c ≠ 14 → ¬ (c = 0 ∧ j = 21) → gI t c j = gI s c j) : own_Y bb pp t := by
  unfold own_Y
  have h0 : ∀ j, j ≠ 21 → gI t 0 j = gI s 0 j := fun j a => h 0 j (by decide) (by decide) (by decide) (by decide) (by decide) (by decide) (by decide) (by omega)
  have hc : ∀ c j, c = 1 ∨ c = 2 ∨ c = 3 ∨ c = 7 ∨ c = 9 ∨ c = 10 ∨ c = 13 → gI t c j = gI s c j := fun c j a => h c j (by omega) (by omega) (by omega) (by omega) (by omega) (by omega) (by omega) (by omega)
  simp only [h0 15 (by decide), h0 16 (by decide), h0 17 (by decide), h0 18 (by decide), h0 19 (by decide), h0 20 (by decide), h0 22 (by decide), h0 23 (by decide), h0 24 (by decide), h0 25 (by decide), hc 1 _ (by omega), hc 2 _ (by omega), hc 3 _ (by omega), hc 7 _ (by omega), hc 9 _ (by omega), hc 10 _ (by omega), hc 13 _ (by omega)]
  exact Y
theorem own_rk {r j : Int32} (hr : 0 ≤ r.toInt ∧ r.toInt < 16) (hj : 0 ≤ j.toInt ∧ j.toInt < 6) : inb 96 (r * 6 + j) := by
  have e1 : (r * 6).toInt = r.toInt * 6 := by rw [i32_mul] <;> simp <;> omega
  have e2 : (r * 6 + j).toInt = r.toInt * 6 + j.toInt := by rw [i32_add] <;> rw [e1] <;> omega
  exact ⟨by omega, by show _ < (96 : Int); omega⟩
theorem own_nt {x : Int32} (h : 0 ≤ x.toInt ∧ x.toInt ≤ 18) (g : ¬ x < 16) : (0 ≤ (x - 16).toInt ∧ (x - 16).toInt ≤ 2) ∧ inb 8 (x - 16) := by
  have l : x < 16 ↔ x.toInt < 16 := i32_lt
  rw [l] at g
  have e : (x - 16).toInt = x.toInt - 16 := by rw [i32_sub] <;> simp <;> omega
  exact ⟨by omega, ⟨by omega, by show _ < (8 : Int); omega⟩⟩
theorem own_b8 {x : Int32} (h : 0 ≤ x.toInt ∧ x.toInt ≤ 2) : inb 8 x := ⟨h.1, by show _ < (8 : Int); omega⟩
/-- seqNullable, firstOfSeq -/
theorem own_s7 {bb pp : Int32} (s : St) (Y : own_Y bb pp s) (r f : Int32) (hr : 0 ≤ r.toInt ∧ r.toInt < 16) (hf : 0 ≤ f.toInt ∧ f.toInt ≤ 6) (Q : Int32 → St → Prop) (h : ∀ v, Q v s) : calI PP 7 14 [.ref 0, .int r, .int f] s Q := by
  obtain ⟨_, _, _, _, _, _, _, _, y1, y2, y3, _⟩ := Y
  have l := y2 (ix r)
  apply c7_in
  refine ⟨hr, ?_⟩
  by_cases big : f.toInt ≤ (gI s 2 (ix r)).toInt
  · refine loop_up (F := fun j => wpcI PP 7 cm7 14 10 [some (.ref 0), some (.int r), none, some (.int (gI s 2 (ix r))), some (.int j), none] [] s Q) (gI s 2 (ix r)).toInt (by omega) (fun j j0 j1 e ih => ?_) (fun j hj => c7_10 _ _ _ _ _ ⟨fun w => absurd w (by rw [i32_lt]; omega), fun _ => h _⟩) f hf.1 big
    have kb := own_rk hr (j := j) ⟨j0, by omega⟩
    have v := y3 (ix (r * 6 + j))
    exact c7_10 _ _ _ _ _ ⟨fun _ => ⟨kb, fun _ => h _, fun g => ⟨(own_nt v g).2, fun _ => h _, fun _ => ih⟩⟩, fun w => absurd (by rw [i32_lt]; exact j1) w⟩
  · exact c7_10 _ _ _ _ _ ⟨fun w => absurd w (by rw [i32_lt]; omega), fun _ => h _⟩
theorem own_s8 {bb pp : Int32} (s : St) (Y : own_Y bb pp s) (r f : Int32) (hr : 0 ≤ r.toInt ∧ r.toInt < 16) (hf : 0 ≤ f.toInt ∧ f.toInt ≤ 6) (Q : Int32 → St → Prop) (h : ∀ v, Q v s) : calI PP 8 14 [.ref 0, .int r, .int f] s Q := by
  obtain ⟨_, _, _, _, _, _, _, _, y1, y2, y3, _⟩ := Y
  have l := y2 (ix r)
  apply c8_in
  refine ⟨hr, ?_⟩
  by_cases big : f.toInt ≤ (gI s 2 (ix r)).toInt
  · refine loop_up (F := fun j => ∀ m : Int32, wpcI PP 8 cm8 14 13 [some (.ref 0), some (.int r), none, some (.int (gI s 2 (ix r))), some (.int m), some (.int j), none] [] s Q) (gI s 2 (ix r)).toInt (by omega) (fun j j0 j1 e ih m => ?_) (fun j hj m => c8_13 _ _ _ _ _ _ ⟨fun w => absurd w (by rw [i32_lt]; omega), fun _ => h _⟩) f hf.1 big 0
    have kb := own_rk hr (j := j) ⟨j0, by omega⟩
    have v := y3 (ix (r * 6 + j))
    exact c8_13 _ _ _ _ _ _ ⟨fun _ => ⟨kb, fun _ => h _, fun g => ⟨(own_nt v g).2, (own_nt v g).2, fun _ => h _, fun _ => ih _⟩⟩, fun w => absurd (by rw [i32_lt]; exact j1) w⟩
  · exact c8_13 _ _ _ _ _ _ ⟨fun w => absurd w (by rw [i32_lt]; omega), fun _ => h _⟩
/-- nullablePass, firstPass, followRule, followPass -/
theorem own_s9 {bb pp : Int32} (s : St) (Y : own_Y bb pp s) (Q : Int32 → St → Prop) (h : ∀ v t, own_Y bb pp t → Q v t) : calI PP 9 14 [.ref 0] s Q := by
  have r17 := Y.2.2.1
  apply c9_in
  refine loop_up (F := fun i => ∀ (x : Int32) u, own_Y bb pp u → gI u 0 17 = gI s 0 17 → wpcI PP 9 cm9 14 4 [some (.ref 0), some (.int x), some (.int i), none] [] u Q) (gI s 0 17).toInt (by omega) (fun i i0 i1 e ih x u Yu e17 => ?_) (fun i hi x u Yu e17 => c9_4 _ _ _ _ ⟨fun w => absurd w (by rw [e17, i32_lt]; omega), fun _ => h _ u Yu⟩) 0 (by decide) (by simpa using r17.1) 0 s Y rfl
  have ib : inb 16 i := ⟨i0, by show _ < (16 : Int); omega⟩
  have ab := own_b8 (Yu.2.2.2.2.2.2.2.2.1 (ix i))
  have nx : ∀ x, wpcI PP 9 cm9 14 46 [some (.ref 0), some (.int x), some (.int i), none] [] u Q := fun x => c9_46 _ _ _ _ (ih x u Yu e17)
  refine c9_4 _ _ _ _ ⟨fun _ => ⟨ib, ab, fun _ => own_s7 u Yu i 0 ⟨i0, by omega⟩ (by decide) _ fun v => ⟨fun _ => nx x, fun _ => ⟨ab, c9_46 _ _ _ _ (ih _ _ (own_Y_cg Yu fun c j a _ _ _ _ _ _ _ => by rw [gI_sI, if_neg (fun w => a w.1)]) (by rw [gI_sI, if_neg (by omega)]; exact e17))⟩⟩, fun _ => nx x⟩, fun w => absurd (by rw [e17, i32_lt]; exact i1) w⟩
theorem own_s10 {bb pp : Int32} (s : St) (Y : own_Y bb pp s) (Q : Int32 → St → Prop) (h : ∀ v t, own_Y bb pp t → Q v t) : calI PP 10 14 [.ref 0] s Q := by
  have r17 := Y.2.2.1
  apply c10_in
  refine loop_up (F := fun i => ∀ (x : Int32) u, own_Y bb pp u → gI u 0 17 = gI s 0 17 → wpcI PP 10 cm10 14 4 [some (.ref 0), some (.int x), some (.int i), none, none] [] u Q) (gI s 0 17).toInt (by omega) (fun i i0 i1 e ih x u Yu e17 => ?_) (fun i hi x u Yu e17 => c10_4 _ _ _ _ ⟨fun w => absurd w (by rw [e17, i32_lt]; omega), fun _ => h _ u Yu⟩) 0 (by decide) (by simpa using r17.1) 0 s Y rfl
  have ib : inb 16 i := ⟨i0, by show _ < (16 : Int); omega⟩
  have ab := own_b8 (Yu.2.2.2.2.2.2.2.2.1 (ix i))
  exact c10_4 _ _ _ _ ⟨fun _ => ⟨ib, own_s8 u Yu i 0 ⟨i0, by omega⟩ (by decide) _ fun v => ⟨ab, ab, fun _ => c10_62 _ _ _ _ (ih x u Yu e17), fun _ => ⟨ab, ab, c10_62 _ _ _ _ (ih _ _ (own_Y_cg Yu fun c j _ a _ _ _ _ _ _ => by rw [gI_sI, if_neg (fun w => a w.1)]) (by rw [gI_sI, if_neg (by omega)]; exact e17))⟩⟩⟩, fun w => absurd (by rw [e17, i32_lt]; exact i1) w⟩
theorem own_s12 {bb pp : Int32} (s : St) (Y : own_Y bb pp s) (r : Int32) (hr : 0 ≤ r.toInt ∧ r.toInt < 16) (Q : Int32 → St → Prop) (h : ∀ v t, own_Y bb pp t → gI t 0 17 = gI s 0 17 → Q v t) : calI PP 12 14 [.ref 0, .int r] s Q := by
  have l := Y.2.2.2.2.2.2.2.2.2.1 (ix r)
  have ab := own_b8 (Y.2.2.2.2.2.2.2.2.1 (ix r))
  have rb : inb 16 r := hr
  apply c12_in
  refine ⟨rb, rb, ?_⟩
  refine loop_up (F := fun i => ∀ (x : Int32) u, own_Y bb pp u → gI u 0 17 = gI s 0 17 → wpcI PP 12 cm12 14 20 [some (.ref 0), some (.int r), some (.int (gI s 1 (ix r))), some (.int (gI s 2 (ix r))), some (.int x), some (.int i), none, none, none] [] u Q) (gI s 2 (ix r)).toInt (by omega) (fun i i0 i1 e ih x u Yu e17 => ?_) (fun i hi x u Yu e17 => c12_20 _ _ _ _ _ _ _ ⟨fun w => absurd w (by rw [i32_lt]; omega), fun _ => h _ u Yu e17⟩) 0 (by decide) (by simp; omega) 0 s Y rfl
  have kb := own_rk hr (j := i) ⟨i0, by omega⟩
  have v := Yu.2.2.2.2.2.2.2.2.2.2.1 (ix (r * 6 + i))
  refine c12_20 _ _ _ _ _ _ _ ⟨fun _ => ⟨kb, fun _ => c12_131 _ _ _ _ _ _ _ (ih x u Yu e17), fun g => ?_⟩, fun w => absurd (by rw [i32_lt]; exact i1) w⟩
  have nb := (own_nt v g).2
  have go : ∀ m : Int32, wpcI PP 12 cm12 14 91 [some (.ref 0), some (.int r), some (.int (gI s 1 (ix r))), some (.int (gI s 2 (ix r))), some (.int x), some (.int i), none, some (.int (gI u 3 (ix (r * 6 + i)) - 16)), some (.int m)] [] u Q := fun m => c12_91 _ _ _ _ _ _ _ _ _ ⟨nb, nb, fun _ => c12_131 _ _ _ _ _ _ _ (ih x u Yu e17), fun _ => ⟨nb, nb, c12_131 _ _ _ _ _ _ _ (ih _ _ (own_Y_cg Yu fun c j _ _ a _ _ _ _ _ => by rw [gI_sI, if_neg (fun w => a w.1)]) (by rw [gI_sI, if_neg (by omega)]; exact e17))⟩⟩
  exact own_s8 u Yu r (i + 1) hr (by omega) _ fun v1 => own_s7 u Yu r (i + 1) hr (by omega) _ fun v2 => ⟨fun _ => go _, fun _ => ⟨ab, go _⟩⟩
theorem own_s11 {bb pp : Int32} (s : St) (Y : own_Y bb pp s) (Q : Int32 → St → Prop) (h : ∀ v t, own_Y bb pp t → Q v t) : calI PP 11 14 [.ref 0] s Q := by
  have r17 := Y.2.2.1
  apply c11_in
  refine loop_up (F := fun i => ∀ (x : Int32) u, own_Y bb pp u → gI u 0 17 = gI s 0 17 → wpcI PP 11 cm11 14 4 [some (.ref 0), some (.int x), some (.int i)] [] u Q) (gI s 0 17).toInt (by omega) (fun i i0 i1 e ih x u Yu e17 => ?_) (fun i hi x u Yu e17 => c11_4 _ _ _ _ ⟨fun w => absurd w (by rw [e17, i32_lt]; omega), fun _ => h _ u Yu⟩) 0 (by decide) (by simpa using r17.1) 0 s Y rfl
  exact c11_4 _ _ _ _ ⟨fun _ => own_s12 u Yu i ⟨i0, by omega⟩ _ fun v t Yt et m _ => ih m t Yt (by rw [et]; exact e17), fun w => absurd (by rw [e17, i32_lt]; exact i1) w⟩

theorem own_Y_mk {bb pp : Int32} {s t : St} (Y : own_Y bb pp s) (h15 : gI t 0 15 = gI s 0 15) (h16 : gI t 0 16 = gI s 0 16) (h17 : gI t 0 17 = gI s 0 17 ∨ (0 ≤ (gI t 0 17).toInt ∧ (gI t 0 17).toInt ≤ 16)) (h18 : 0 ≤ (gI t 0 18).toInt ∧ (gI t 0 18).toInt ≤ 32) (h19 : gI t 0 19 = gI s 0 19 ∨ (0 ≤ (gI t 0 19).toInt ∧ (gI t 0 19).toInt ≤ 256)) (h20 : gI t 0 20 = gI s 0 20 ∨ (0 ≤ (gI t 0 20).toInt ∧ (gI t 0 20).toInt ≤ 256)) (h22 : gI t 0 22 = gI s 0 22 ∨ (0 ≤ (gI t 0 22).toInt ∧ (gI t 0 22).toInt ≤ 256)) (h23 : 0 ≤ (gI t 0 23).toInt ∧ (gI t 0 23).toInt ≤ 1000000) (h24 : gI t 0 24 = gI s 0 24) (h25 : gI t 0 25 = gI s 0 25)
    (a1 : ∀ j, gI t 1 j = gI s 1 j ∨ (0 ≤ (gI t 1 j).toInt ∧ (gI t 1 j).toInt ≤ 2)) (a2 : ∀ j, gI t 2 j = gI s 2 j ∨ (0 ≤ (gI t 2 j).toInt ∧ (gI t 2 j).toInt ≤ 6)) (a3 : ∀ j, gI t 3 j = gI s 3 j ∨ (0 ≤ (gI t 3 j).toInt ∧ (gI t 3 j).toInt ≤ 18)) (a7 : ∀ j, gI t 7 j = gI s 7 j ∨ (-1 ≤ (gI t 7 j).toInt ∧ (gI t 7 j).toInt ≤ 15)) (a9 : ∀ j, gI t 9 j = gI s 9 j ∨ (0 ≤ (gI t 9 j).toInt ∧ (gI t 9 j).toInt ≤ 4)) (a10 : ∀ j, gI t 10 j = gI s 10 j ∨ (0 ≤ (gI t 10 j).toInt ∧ (gI t 10 j).toInt ≤ 18)) (a13 : ∀ j, gI t 13 j = gI s 13 j ∨ (0 ≤ (gI t 13 j).toInt ∧ (gI t 13 j).toInt ≤ 255)) : own_Y bb pp t := by
  obtain ⟨y15, y16, y17, y18, y19, y20, y22, y23, b1, b2, b3, b7, b9, b10, b13, y24, y25⟩ := Y
  refine ⟨by rw [h15, y15], by rw [h16, y16], ?_, h18, ?_, ?_, ?_, h23, fun j => ?_, fun j => ?_, fun j => ?_, fun j => ?_, fun j => ?_, fun j => ?_, fun j => ?_, by rw [h24, y24], by rw [h25, y25]⟩
  · rcases h17 with w | w
    · rw [w]; exact y17
    · exact w
  · rcases h19 with w | w
    · rw [w]; exact y19
    · exact w
  · rcases h20 with w | w
    · rw [w]; exact y20
    · exact w
  · rcases h22 with w | w
    · rw [w]; exact y22
    · exact w
  · rcases a1 j with w | w
    · rw [w]; exact b1 j
    · exact w
  · rcases a2 j with w | w
    · rw [w]; exact b2 j
    · exact w
  · rcases a3 j with w | w
    · rw [w]; exact b3 j
    · exact w
  · rcases a7 j with w | w
    · rw [w]; exact b7 j
    · exact w
  · rcases a9 j with w | w
    · rw [w]; exact b9 j
    · exact w
  · rcases a10 j with w | w
    · rw [w]; exact b10 j
    · exact w
  · rcases a13 j with w | w
    · rw [w]; exact b13 j
    · exact w
/-- one element or field is written: what each may hold -/
def own_ok (s : St) (c j : Nat) (v : Int32) : Prop := (c = 0 → (j ≠ 15 ∧ j ≠ 16) ∧ j ≠ 24 ∧ j ≠ 25) ∧ (c = 0 → j = 17 → 0 ≤ v.toInt ∧ v.toInt ≤ 16) ∧ (c = 0 → j = 18 → (gI s 0 18).toInt ≤ v.toInt ∧ v.toInt ≤ 32) ∧ (c = 0 → j = 19 ∨ j = 20 ∨ j = 22 → 0 ≤ v.toInt ∧ v.toInt ≤ 256) ∧ (c = 0 → j = 23 → 0 ≤ v.toInt ∧ v.toInt ≤ 1000000) ∧ (c = 1 → 0 ≤ v.toInt ∧ v.toInt ≤ 2) ∧ (c = 2 → 0 ≤ v.toInt ∧ v.toInt ≤ 6) ∧ (c = 3 ∨ c = 10 → 0 ≤ v.toInt ∧ v.toInt ≤ 18) ∧ (c = 7 → -1 ≤ v.toInt ∧ v.toInt ≤ 15) ∧ (c = 9 → 0 ≤ v.toInt ∧ v.toInt ≤ 4) ∧ (c = 13 → 0 ≤ v.toInt ∧ v.toInt ≤ 255)
theorem own_Y_s {bb pp : Int32} {s : St} (Y : own_Y bb pp s) (c j : Nat) (v : Int32) (h : own_ok s c j v) : own_Y bb pp (sI s c j v) := by
  obtain ⟨o0, o17, o18, o19, o23, o1, o2, o3, o7, o9, o13⟩ := h
  have y18 := Y.2.2.2.1
  have y23 := Y.2.2.2.2.2.2.2.1
  have f : ∀ c' j', ¬ (c' = c ∧ j' = j) → gI (sI s c j v) c' j' = gI s c' j' := fun c' j' w => by rw [gI_sI, if_neg w]
  have g : gI (sI s c j v) c j = v := by rw [gI_sI, if_pos ⟨rfl, rfl⟩]
  have arr : ∀ c' (lo hi : Int), (c = c' → lo ≤ v.toInt ∧ v.toInt ≤ hi) → ∀ i, gI (sI s c j v) c' i = gI s c' i ∨ (lo ≤ (gI (sI s c j v) c' i).toInt ∧ (gI (sI s c j v) c' i).toInt ≤ hi) := fun c' lo hi hv i => by
    by_cases w : c' = c ∧ i = j
    · obtain ⟨rfl, rfl⟩ := w; rw [g]; exact Or.inr (hv rfl)
    · exact Or.inl (f c' i w)
  have fld : ∀ i (lo hi : Int), (c = 0 → j = i → lo ≤ v.toInt ∧ v.toInt ≤ hi) → gI (sI s c j v) 0 i = gI s 0 i ∨ (lo ≤ (gI (sI s c j v) 0 i).toInt ∧ (gI (sI s c j v) 0 i).toInt ≤ hi) := fun i lo hi hv => by
    by_cases w : 0 = c ∧ i = j
    · obtain ⟨w1, w2⟩ := w; subst w1; subst w2; rw [g]; exact Or.inr (hv rfl rfl)
    · exact Or.inl (f 0 i w)
  have k18 : (gI s 0 18).toInt ≤ (gI (sI s c j v) 0 18).toInt ∧ (gI (sI s c j v) 0 18).toInt ≤ 32 := by
    by_cases w : 0 = c ∧ 18 = j
    · obtain ⟨w1, w2⟩ := w; subst w1; subst w2; rw [g]; exact o18 rfl rfl
    · rw [f 0 18 w]; exact ⟨Int.le_refl _, y18.2⟩
  have k23 : 0 ≤ (gI (sI s c j v) 0 23).toInt ∧ (gI (sI s c j v) 0 23).toInt ≤ 1000000 := by
    by_cases w : 0 = c ∧ 23 = j
    · obtain ⟨w1, w2⟩ := w; subst w1; subst w2; rw [g]; exact o23 rfl rfl
    · rw [f 0 23 w]; exact y23
  exact own_Y_mk Y (f 0 15 fun w => (o0 w.1.symm).1.1 w.2.symm) (f 0 16 fun w => (o0 w.1.symm).1.2 w.2.symm) (fld 17 0 16 o17) ⟨Int.le_trans y18.1 k18.1, k18.2⟩ (fld 19 0 256 fun a b => o19 a (Or.inl b)) (fld 20 0 256 fun a b => o19 a (Or.inr (Or.inl b))) (fld 22 0 256 fun a b => o19 a (Or.inr (Or.inr b))) k23 (f 0 24 fun w => (o0 w.1.symm).2.1 w.2.symm) (f 0 25 fun w => (o0 w.1.symm).2.2 w.2.symm) (arr 1 0 2 o1) (arr 2 0 6 o2) (arr 3 0 18 fun a => o3 (Or.inl a)) (arr 7 (-1) 15 o7) (arr 9 0 4 o9) (arr 10 0 18 fun a => o3 (Or.inr a)) (arr 13 0 255 o13)
theorem own_okf {s : St} {c j : Nat} {v : Int32} (h : c = 4 ∨ c = 5 ∨ c = 6 ∨ c = 8 ∨ c = 11 ∨ c = 12 ∨ c = 14 ∨ c = 0 ∧ j = 21) : own_ok s c j v := ⟨fun _ => by omega, fun a b => by omega, fun a b => by omega, fun a b => by omega, fun a b => by omega, fun a => by omega, fun a => by omega, fun a => by omega, fun a => by omega, fun a => by omega, fun a => by omega⟩
theorem own_ok7 {s : St} {j : Nat} {v : Int32} (h : -1 ≤ v.toInt ∧ v.toInt ≤ 15) : own_ok s 7 j v := ⟨fun a => absurd a (by decide), fun a => absurd a (by decide), fun a => absurd a (by decide), fun a => absurd a (by decide), fun a => absurd a (by decide), fun a => absurd a (by decide), fun a => absurd a (by decide), fun a => absurd a (by decide), fun _ => h, fun a => absurd a (by decide), fun a => absurd a (by decide)⟩
theorem own_ok20 {s : St} {v : Int32} (h : 0 ≤ v.toInt ∧ v.toInt ≤ 256) : own_ok s 0 20 v := ⟨fun _ => by decide, fun _ b => absurd b (by decide), fun _ b => absurd b (by decide), fun _ _ => h, fun _ b => absurd b (by decide), fun a => absurd a (by decide), fun a => absurd a (by decide), fun a => absurd a (by decide), fun a => absurd a (by decide), fun a => absurd a (by decide), fun a => absurd a (by decide)⟩
theorem own_tk {a t : Int32} (ha : 0 ≤ a.toInt ∧ a.toInt ≤ 2) (ht : 0 ≤ t.toInt ∧ t.toInt ≤ 4) : inb 128 (a * 16 + t) := by
  have e1 : (a * 16).toInt = a.toInt * 16 := by rw [i32_mul] <;> simp <;> omega
  have e2 : (a * 16 + t).toInt = a.toInt * 16 + t.toInt := by rw [i32_add] <;> rw [e1] <;> omega
  exact ⟨by omega, by show _ < (128 : Int); omega⟩
theorem own_Ym {bb pp : Int32} {s : St} (Y : own_Y bb pp s) (j : Nat) : own_Y bb pp (sI s 7 j (-1)) := own_Y_s Y 7 j (-1) (own_ok7 ⟨by decide, by decide⟩)
/-- predict, fillRule, fillTable, build -/
theorem own_s13 {bb pp : Int32} (s : St) (Y : own_Y bb pp s) (r : Int32) (hr : 0 ≤ r.toInt ∧ r.toInt < 16) (Q : Int32 → St → Prop) (h : ∀ v, Q v s) : calI PP 13 14 [.ref 0, .int r] s Q := by
  apply c13_in
  exact own_s8 s Y r 0 hr (by decide) _ fun v => own_s7 s Y r 0 hr (by decide) _ fun w => ⟨fun _ => h _, fun _ => ⟨hr, own_b8 (Y.2.2.2.2.2.2.2.2.1 (ix r)), h _⟩⟩
theorem own_s15 {bb pp : Int32} (s : St) (Y : own_Y bb pp s) (r : Int32) (hr : 0 ≤ r.toInt ∧ r.toInt < 16) (Q : St → Prop) (h : ∀ t, own_Y bb pp t → gI t 0 17 = gI s 0 17 → Q t) : calV PP 15 14 [.ref 0, .int r] s Q := by
  have ha := Y.2.2.2.2.2.2.2.2.1 (ix r)
  apply c15_in
  refine own_s13 s Y r hr _ fun p => ⟨hr, ?_⟩
  refine loop_up (F := fun i => ∀ u, own_Y bb pp u → gI u 0 17 = gI s 0 17 → wpcV PP 15 cm15 14 16 [some (.ref 0), some (.int r), some (.int p), some (.int (gI s 1 (ix r))), some (.int i), none, none] [] u Q) 5 (by decide) (fun i i0 i1 e ih u Yu e17 => ?_) (fun i hi u Yu e17 => c15_16 _ _ _ _ _ _ ⟨fun _ => h u Yu e17, fun w => absurd (by rw [Yu.2.1, i32_lt, hi]; decide) w⟩) 0 (by decide) (by decide) s Y rfl
  have kb := own_tk ha (t := i) ⟨i0, by omega⟩
  have y20 := Yu.2.2.2.2.2.1
  refine c15_16 _ _ _ _ _ _ ⟨fun _ => h u Yu e17, fun _ => ⟨fun _ => c15_117 _ _ _ _ _ _ (ih u Yu e17), fun _ => ⟨kb, fun _ => ⟨kb, c15_117 _ _ _ _ _ _ (ih _ (own_Y_s Yu 7 _ r (own_ok7 ⟨by omega, by omega⟩)) (by rw [gI_sI, if_neg (by omega)]; exact e17))⟩, fun _ => ⟨fun lt => ?_, fun _ => c15_117 _ _ _ _ _ _ (ih u Yu e17)⟩⟩⟩⟩
  have lt : (gI u 0 20).toInt < 256 := by rw [i32_lt] at lt; exact lt
  have e1 : (gI u 0 20 + 1).toInt = (gI u 0 20).toInt + 1 := by rw [i32_add] <;> simp <;> omega
  refine ⟨⟨y20.1, lt⟩, c15_117 _ _ _ _ _ _ (ih _ (own_Y_s (own_Y_s Yu 8 _ _ (own_okf (by omega))) 0 20 _ (own_ok20 ⟨by omega, by omega⟩)) (by rw [gI_sI, if_neg (by omega), gI_sI, if_neg (by omega)]; exact e17))⟩
theorem own_s14 {bb pp : Int32} (s : St) (Y : own_Y bb pp s) (Q : St → Prop) (h : ∀ t, own_Y bb pp t → Q t) : calV PP 14 14 [.ref 0] s Q := by
  have r17 := Y.2.2.1
  apply c14_in
  refine loop_up (F := fun i => ∀ u, own_Y bb pp u → gI u 0 17 = gI s 0 17 → wpcV PP 14 cm14 14 2 [some (.ref 0), some (.int i)] [] u Q) 128 (by decide) (fun i i0 i1 e ih u Yu e17 => c14_2 _ _ _ ⟨fun _ => ⟨⟨i0, i1⟩, ih _ (own_Ym Yu _) (by rw [gI_sI, if_neg (by omega)]; exact e17)⟩, fun w => absurd (by rw [i32_lt]; exact i1) w⟩) (fun i hi u Yu e17 => c14_2 _ _ _ ⟨fun w => absurd w (by rw [i32_lt, hi]; decide), fun _ => ?_⟩) 0 (by decide) (by decide) s Y rfl
  refine loop_up (F := fun i => ∀ u, own_Y bb pp u → gI u 0 17 = gI s 0 17 → wpcV PP 14 cm14 14 24 [some (.ref 0), some (.int i)] [] u Q) (gI s 0 17).toInt (by omega) (fun i i0 i1 e ih u Yu e17 => c14_24 _ _ _ ⟨fun _ => own_s15 u Yu i ⟨i0, by omega⟩ _ fun t Yt et => ih t Yt (by rw [et]; exact e17), fun w => absurd (by rw [e17, i32_lt]; exact i1) w⟩) (fun i hi u Yu e17 => c14_24 _ _ _ ⟨fun w => absurd w (by rw [e17, i32_lt]; omega), fun _ => h u Yu⟩) 0 (by decide) (by simpa using r17.1) u Yu e17
theorem own_Y24 {bb pp : Int32} {s : St} (Y : own_Y bb pp s) (v : Int32) : own_Y v pp (sI s 0 24 v) := by
  unfold own_Y
  have f : ∀ c j, ¬ (c = 0 ∧ j = 24) → gI (sI s 0 24 v) c j = gI s c j := fun c j w => by rw [gI_sI, if_neg w]
  have g : gI (sI s 0 24 v) 0 24 = v := by rw [gI_sI, if_pos ⟨rfl, rfl⟩]
  have f0 : ∀ j, j ≠ 24 → gI (sI s 0 24 v) 0 j = gI s 0 j := fun j w => f 0 j (fun a => w a.2)
  simp only [f0 15 (by decide), f0 16 (by decide), f0 17 (by decide), f0 18 (by decide), f0 19 (by decide), f0 20 (by decide), f0 22 (by decide), f0 23 (by decide), f0 25 (by decide), f 1 _ (by omega), f 2 _ (by omega), f 3 _ (by omega), f 7 _ (by omega), f 9 _ (by omega), f 10 _ (by omega), f 13 _ (by omega), g]
  obtain ⟨y15, y16, y17, y18, y19, y20, y22, y23, b1, b2, b3, b7, b9, b10, b13, y24, y25⟩ := Y
  exact ⟨y15, y16, y17, y18, y19, y20, y22, y23, b1, b2, b3, b7, b9, b10, b13, trivial, y25⟩
theorem own_Y25 {bb pp : Int32} {s : St} (Y : own_Y bb pp s) (v : Int32) : own_Y bb v (sI s 0 25 v) := by
  unfold own_Y
  have f : ∀ c j, ¬ (c = 0 ∧ j = 25) → gI (sI s 0 25 v) c j = gI s c j := fun c j w => by rw [gI_sI, if_neg w]
  have g : gI (sI s 0 25 v) 0 25 = v := by rw [gI_sI, if_pos ⟨rfl, rfl⟩]
  have f0 : ∀ j, j ≠ 25 → gI (sI s 0 25 v) 0 j = gI s 0 j := fun j w => f 0 j (fun a => w a.2)
  simp only [f0 15 (by decide), f0 16 (by decide), f0 17 (by decide), f0 18 (by decide), f0 19 (by decide), f0 20 (by decide), f0 22 (by decide), f0 23 (by decide), f0 24 (by decide), f 1 _ (by omega), f 2 _ (by omega), f 3 _ (by omega), f 7 _ (by omega), f 9 _ (by omega), f 10 _ (by omega), f 13 _ (by omega), g]
  obtain ⟨y15, y16, y17, y18, y19, y20, y22, y23, b1, b2, b3, b7, b9, b10, b13, y24, y25⟩ := Y
  exact ⟨y15, y16, y17, y18, y19, y20, y22, y23, b1, b2, b3, b7, b9, b10, b13, y24, trivial⟩
theorem own_s6 {bb pp : Int32} (s : St) (Y : own_Y bb pp s) (Q : Int32 → St → Prop) (h0 : bb ≠ 0 → Q (-1) s) (h : ∀ (v : Int32) t, bb = 0 → 0 ≤ v.toInt → own_Y 1 pp t → Q v t) : calI PP 6 14 [.ref 0] s Q := by
  apply c6_in
  have y24 := Y.2.2.2.2.2.2.2.2.2.2.2.2.2.2.2.1
  rw [y24]
  refine ⟨fun z => ?_, fun z => h0 z⟩
  have d3 : ∀ u, own_Y 1 pp u → wpcI PP 6 cm6 14 95 [some (.ref 0), none] [] u Q := fun u Yu => c6_95 _ _ (own_s14 u Yu _ fun t Yt => h _ t z Yt.2.2.2.2.2.1.1 Yt)
  have d2 : ∀ u, own_Y 1 pp u → wpcI PP 6 cm6 14 63 [some (.ref 0), none] [] u Q := fun u Yu => by
    refine c6_63 _ _ ⟨by decide, ?_⟩
    refine loop_up (F := fun i => ∀ u, own_Y 1 pp u → wpcI PP 6 cm6 14 72 [some (.ref 0), some (.int i)] [] u Q) 256 (by decide) (fun i i0 i1 e ih u Yu => c6_72 _ _ _ ⟨fun _ => own_s11 u Yu _ fun v t Yt => ⟨fun _ => d3 t Yt, fun _ => ih t Yt⟩, fun w => absurd (by rw [i32_lt]; exact i1) w⟩) (fun i hi u Yu => c6_72 _ _ _ ⟨fun w => absurd w (by rw [i32_lt, hi]; decide), fun _ => d3 u Yu⟩) 0 (by decide) (by decide) _ (own_Y_s Yu 6 _ 1 (own_okf (by omega)))
  have d1 : ∀ u, own_Y 1 pp u → wpcI PP 6 cm6 14 38 [some (.ref 0), none] [] u Q := fun u Yu => by
    apply c6_38
    exact loop_up (F := fun i => ∀ u, own_Y 1 pp u → wpcI PP 6 cm6 14 40 [some (.ref 0), some (.int i)] [] u Q) 256 (by decide) (fun i i0 i1 e ih u Yu => c6_40 _ _ _ ⟨fun _ => own_s10 u Yu _ fun v t Yt => ⟨fun _ => d2 t Yt, fun _ => ih t Yt⟩, fun w => absurd (by rw [i32_lt]; exact i1) w⟩) (fun i hi u Yu => c6_40 _ _ _ ⟨fun w => absurd w (by rw [i32_lt, hi]; decide), fun _ => d2 u Yu⟩) 0 (by decide) (by decide) u Yu
  exact loop_up (F := fun i => ∀ u, own_Y 1 pp u → wpcI PP 6 cm6 14 16 [some (.ref 0), some (.int i)] [] u Q) 64 (by decide) (fun i i0 i1 e ih u Yu => c6_16 _ _ _ ⟨fun _ => own_s9 u Yu _ fun v t Yt => ⟨fun _ => d1 t Yt, fun _ => ih t Yt⟩, fun w => absurd (by rw [i32_lt]; exact i1) w⟩) (fun i hi u Yu => c6_16 _ _ _ ⟨fun w => absurd w (by rw [i32_lt, hi]; decide), fun _ => d1 u Yu⟩) 0 (by decide) (by decide) _ (own_Y24 Y 1)

/-- lookahead -/
theorem own_s23 {bb pp : Int32} (s : St) (Y : own_Y bb pp s) (Q : Int32 → St → Prop) (h0 : Q 0 s) (h : ∀ v : Int32, 0 ≤ v.toInt → v.toInt ≤ 4 → (gI s 0 23).toInt < (gI s 0 18).toInt → Q v s) : calI PP 23 14 [.ref 0] s Q := by
  have y23 := Y.2.2.2.2.2.2.2.1
  have y18 := Y.2.2.2.1
  apply c23_in
  refine ⟨fun _ => h0, fun _ => ⟨fun lt => ⟨fun lt2 => ⟨⟨y23.1, ?_⟩, ?_⟩, fun _ => h0⟩, fun _ => h0⟩⟩
  · rw [i32_lt] at lt2; exact lt2
  · rw [i32_lt] at lt
    have := Y.2.2.2.2.2.2.2.2.2.2.2.2.1 (ix (gI s 0 23))
    exact h _ this.1 this.2 lt
/-- record -/
theorem own_s24 {bb pp : Int32} (s : St) (Y : own_Y bb pp s) (a b c : Int32) (Q : St → Prop) (h : ∀ t, own_Y bb pp t → (∀ j, j ≠ 21 → gI t 0 j = gI s 0 j) → Q t) : calV PP 24 14 [.ref 0, .int a, .int b, .int c] s Q := by
  have fin : ∀ u, own_Y bb pp u → (∀ j, gI u 0 j = gI s 0 j) → wpcV PP 24 cm24 14 36 [some (.ref 0), none, none, none] [] u Q := fun u Yu e => c24_36 _ _ (h _ (own_Y_s Yu 0 21 _ (own_okf (by omega))) fun j hj => by rw [gI_sI, if_neg (fun w => hj w.2)]; exact e j)
  apply c24_in
  refine ⟨fun _ => fin s Y fun _ => rfl, fun n => ⟨fun lt => ⟨⟨?_, ?_⟩, fin _ (own_Y_s Y 14 _ _ (own_okf (by omega))) fun j => by rw [gI_sI, if_neg (by omega)]⟩, fun _ => fin s Y fun _ => rfl⟩⟩
  · rw [i32_lt] at n; simp at n; exact n
  · rw [i32_lt] at lt; exact lt
theorem own_ok22 {s : St} {v : Int32} (h : 0 ≤ v.toInt ∧ v.toInt ≤ 256) : own_ok s 0 22 v := ⟨fun _ => by decide, fun _ b => absurd b (by decide), fun _ b => absurd b (by decide), fun _ _ => h, fun _ b => absurd b (by decide), fun a => absurd a (by decide), fun a => absurd a (by decide), fun a => absurd a (by decide), fun a => absurd a (by decide), fun a => absurd a (by decide), fun a => absurd a (by decide)⟩
theorem own_ok19 {s : St} {v : Int32} (h : 0 ≤ v.toInt ∧ v.toInt ≤ 256) : own_ok s 0 19 v := ⟨fun _ => by decide, fun _ b => absurd b (by decide), fun _ b => absurd b (by decide), fun _ _ => h, fun _ b => absurd b (by decide), fun a => absurd a (by decide), fun a => absurd a (by decide), fun a => absurd a (by decide), fun a => absurd a (by decide), fun a => absurd a (by decide), fun a => absurd a (by decide)⟩
theorem own_ok23 {s : St} {v : Int32} (h : 0 ≤ v.toInt ∧ v.toInt ≤ 1000000) : own_ok s 0 23 v := ⟨fun _ => by decide, fun _ b => absurd b (by decide), fun _ b => absurd b (by decide), fun _ b => absurd b (by decide), fun _ _ => h, fun a => absurd a (by decide), fun a => absurd a (by decide), fun a => absurd a (by decide), fun a => absurd a (by decide), fun a => absurd a (by decide), fun a => absurd a (by decide)⟩
theorem own_ok10 {s : St} {j : Nat} {v : Int32} (h : 0 ≤ v.toInt ∧ v.toInt ≤ 18) : own_ok s 10 j v := ⟨fun a => absurd a (by decide), fun a => absurd a (by decide), fun a => absurd a (by decide), fun a => absurd a (by decide), fun a => absurd a (by decide), fun a => absurd a (by decide), fun a => absurd a (by decide), fun _ => h, fun a => absurd a (by decide), fun a => absurd a (by decide), fun a => absurd a (by decide)⟩
theorem own_ok13 {s : St} {j : Nat} {v : Int32} (h : 0 ≤ v.toInt ∧ v.toInt ≤ 255) : own_ok s 13 j v := ⟨fun a => absurd a (by decide), fun a => absurd a (by decide), fun a => absurd a (by decide), fun a => absurd a (by decide), fun a => absurd a (by decide), fun a => absurd a (by decide), fun a => absurd a (by decide), fun a => absurd a (by decide), fun a => absurd a (by decide), fun a => absurd a (by decide), fun _ => h⟩
theorem own_d1 {x : Int32} (h : 1 ≤ x.toInt ∧ x.toInt ≤ 256) : (x - 1).toInt = x.toInt - 1 := by rw [i32_sub] <;> simp <;> omega
theorem own_u1 {x : Int32} (h : 0 ≤ x.toInt ∧ x.toInt ≤ 256) : (x + 1).toInt = x.toInt + 1 := by rw [i32_add] <;> simp <;> omega
theorem own_v1 {x : Int32} (h : 0 ≤ x.toInt ∧ x.toInt ≤ 1000000) : (x + 1).toInt = x.toInt + 1 := by rw [i32_add] <;> simp <;> omega
/-- matchTerminal -/
theorem own_s26 {bb pp : Int32} (s : St) (Y : own_Y bb pp s) (n x : Int32) (hn : 0 ≤ n.toInt ∧ n.toInt ≤ 255) (hp : (gI s 0 23).toInt ≤ 900000) (sp : 1 ≤ (gI s 0 22).toInt) (Q : St → Prop) (h : ∀ t, own_Y bb pp t → (gI t 0 23).toInt ≤ (gI s 0 23).toInt + 1 → Q t) : calV PP 26 14 [.ref 0, .int n, .int x] s Q := by
  have y22 := Y.2.2.2.2.2.2.1
  have y23 := Y.2.2.2.2.2.2.2.1
  have nb : inb 256 n := ⟨hn.1, by show _ < (256 : Int); omega⟩
  have fin : ∀ u, own_Y bb pp u → gI u 0 22 = gI s 0 22 → (gI u 0 23).toInt ≤ (gI s 0 23).toInt + 1 → wpcV PP 26 cm26 14 43 [some (.ref 0), none, none, none] [] u Q := fun u Yu e e3 => by
    apply c26_43
    rw [e]
    have d := own_d1 (x := gI s 0 22) ⟨sp, y22.2⟩
    exact h _ (own_Y_s Yu 0 22 _ (own_ok22 ⟨by omega, by omega⟩)) (by rw [gI_sI, if_neg (by omega)]; exact e3)
  have re : calV PP 24 14 [.ref 0, .int 1, .int (gI s 0 23), .int x] s (fun t => wpcV PP 26 cm26 14 43 [some (.ref 0), none, none, none] [] t Q) := own_s24 s Y _ _ _ _ fun t Yt et => fin t Yt (et 22 (by decide)) (by rw [et 23 (by decide)]; omega)
  have u := own_v1 y23
  have go : inb 256 n ∧ wpcV PP 26 cm26 14 43 [some (.ref 0), none, none, none] [] (sI (sI s 12 (ix n) (gI s 0 23)) 0 23 (gI s 0 23 + 1)) Q := by
    refine ⟨nb, fin _ (own_Y_s (own_Y_s Y 12 (ix n) (gI s 0 23) (own_okf (by omega))) 0 23 _ (own_ok23 ⟨by omega, by omega⟩)) ?_ ?_⟩
    · rw [gI_sI, if_neg (by omega), gI_sI, if_neg (by omega)]
    · rw [gI_sI, if_pos ⟨rfl, rfl⟩]; omega
  apply c26_in
  exact own_s23 s Y _ ⟨fun _ => go, fun _ => re⟩ fun v v0 v4 lt => ⟨fun _ => go, fun _ => re⟩
/-- push -/
theorem own_s29 {bb pp : Int32} (s : St) (Y : own_Y bb pp s) (n : Int32) (hn : 0 ≤ n.toInt ∧ n.toInt ≤ 255) (Q : St → Prop) (h : ∀ t, own_Y bb pp t → gI t 0 23 = gI s 0 23 → Q t) : calV PP 29 14 [.ref 0, .int n] s Q := by
  have y22 := Y.2.2.2.2.2.2.1
  apply c29_in
  refine ⟨fun _ => h s Y rfl, fun _ => ⟨fun lt => ?_, fun _ => h s Y rfl⟩⟩
  have lt : (gI s 0 22).toInt < 256 := by rw [i32_lt] at lt; exact lt
  have u := own_u1 y22
  exact ⟨⟨y22.1, lt⟩, h _ (own_Y_s (own_Y_s Y 13 _ n (own_ok13 hn)) 0 22 _ (own_ok22 ⟨by omega, by omega⟩)) (by rw [gI_sI, if_neg (by omega), gI_sI, if_neg (by omega)])⟩

/-- syncSet -/
theorem own_s30 {bb pp : Int32} (s : St) (Y : own_Y bb pp s) (a : Int32) (ha : 0 ≤ a.toInt ∧ a.toInt ≤ 2) (Q : Int32 → St → Prop) (h : ∀ v, Q v s) : calI PP 30 14 [.ref 0, .int a] s Q := by
  have b10 := Y.2.2.2.2.2.2.2.2.2.2.2.2.2.1
  have b13 := Y.2.2.2.2.2.2.2.2.2.2.2.2.2.2.1
  apply c30_in
  refine ⟨own_b8 ha, own_b8 ha, ?_⟩
  refine loop_up (F := fun i => ∀ x : Int32, wpcI PP 30 cm30 14 18 [some (.ref 0), none, some (.int x), some (.int i), none] [] s Q) 256 (by decide) (fun i i0 i1 e ih x => ?_) (fun i hi x => c30_18 _ _ _ _ ⟨fun _ => ⟨fun w => absurd w (by rw [i32_lt, hi]; decide), fun _ => h _⟩, fun _ => h _⟩) 0 (by decide) (by decide) _
  have n := b13 (ix i)
  have v := b10 (ix (gI s 13 (ix i)))
  exact c30_18 _ _ _ _ ⟨fun _ => ⟨fun _ => ⟨⟨i0, i1⟩, ⟨n.1, by show _ < (256 : Int); omega⟩, fun _ => c30_78 _ _ _ _ (ih _), fun g => ⟨(own_nt v g).2, c30_78 _ _ _ _ (ih _)⟩⟩, fun _ => h _⟩, fun _ => h _⟩
/-- recover -/
theorem own_s31 {bb pp : Int32} (s : St) (Y : own_Y bb pp s) (a : Int32) (ha : 0 ≤ a.toInt ∧ a.toInt ≤ 2) (hp : (gI s 0 23).toInt ≤ 900000) (sp : 1 ≤ (gI s 0 22).toInt) (Q : St → Prop) (h : ∀ t, own_Y bb pp t → (gI t 0 23).toInt ≤ (gI s 0 23).toInt + 33 → Q t) : calV PP 31 14 [.ref 0, .int a] s Q := by
  have y22 := Y.2.2.2.2.2.2.1
  have y23 := Y.2.2.2.2.2.2.2.1
  have fin : ∀ u, own_Y bb pp u → gI u 0 22 = gI s 0 22 → (gI u 0 23).toInt ≤ (gI s 0 23).toInt + 33 → wpcV PP 31 cm31 14 59 [some (.ref 0), some (.int a), none, none, none] [] u Q := fun u Yu e e3 => by
    have d := own_d1 (x := gI s 0 22) ⟨sp, y22.2⟩
    have go : ∀ v : Int32, 0 ≤ v.toInt → v.toInt ≤ 4 → inb 128 (a * 16 + v) ∧ ((gI u 7 (ix (a * 16 + v)) < 0) → calV PP 24 14 [.ref 0, .int 3, .int (gI u 0 23), .int (16 + a)] u (fun s365 => Q (sI s365 0 22 (gI s365 0 22 - 1)))) ∧ (¬ (gI u 7 (ix (a * 16 + v)) < 0) → Q u) := fun v v0 v4 => by
      refine ⟨own_tk ha ⟨v0, v4⟩, fun _ => own_s24 u Yu _ _ _ _ fun t Yt et => ?_, fun _ => h u Yu e3⟩
      have e22 : gI t 0 22 = gI s 0 22 := by rw [et 22 (by decide), e]
      rw [e22]
      refine h _ (own_Y_s Yt 0 22 _ (own_ok22 ⟨by omega, by omega⟩)) ?_
      rw [gI_sI, if_neg (by omega), et 23 (by decide)]; exact e3
    exact c31_59 _ _ _ (own_s23 u Yu _ (go 0 (by decide) (by decide)) fun v v0 v4 _ => go v v0 v4)
  apply c31_in
  refine own_s30 s Y a ha _ fun m => ?_
  refine loop_up (F := fun i => ∀ u, own_Y bb pp u → gI u 0 22 = gI s 0 22 → (gI u 0 23).toInt ≤ (gI s 0 23).toInt + i.toInt → wpcV PP 31 cm31 14 8 [some (.ref 0), some (.int a), some (.int m), some (.int i), none] [] u Q) 33 (by decide) (fun i i0 i1 e ih u Yu e2 e3 => ?_) (fun i hi u Yu e2 e3 => c31_8 _ _ _ _ _ ⟨fun _ => fin u Yu e2 (by omega), fun w => absurd (by rw [i32_lt, hi]; decide) w⟩) 0 (by decide) (by decide) s Y rfl (by simp)
  have go : ∀ v : Int32, ((m >>> (v &&& 31)) &&& 1 = 0 → calV PP 24 14 [.ref 0, .int 2, .int (gI u 0 23), .int v] u (fun s355 => wpcV PP 31 cm31 14 8 [some (.ref 0), some (.int a), some (.int m), some (.int (i + 1)), none] [] (sI s355 0 23 (gI s355 0 23 + 1)) Q)) ∧ (¬ ((m >>> (v &&& 31)) &&& 1 = 0) → wpcV PP 31 cm31 14 59 [some (.ref 0), some (.int a), none, none, none] [] u Q) := fun v => by
    refine ⟨fun _ => own_s24 u Yu _ _ _ _ fun t Yt et => ?_, fun _ => fin u Yu e2 (by omega)⟩
    have f23 : gI t 0 23 = gI u 0 23 := et 23 (by decide)
    have yu := Yu.2.2.2.2.2.2.2.1
    have u1 := own_v1 yu
    rw [f23]
    refine ih _ (own_Y_s Yt 0 23 _ (own_ok23 ⟨by omega, by omega⟩)) ?_ ?_
    · rw [gI_sI, if_neg (by omega), et 22 (by decide)]; exact e2
    · rw [gI_sI, if_pos ⟨rfl, rfl⟩]; omega
  refine c31_8 _ _ _ _ _ ⟨fun w => fin u Yu e2 (by omega), fun _ => own_s23 u Yu _ (go 0) fun v _ _ _ => go v⟩
theorem own_m1 {x : Int32} (h : 0 ≤ x.toInt ∧ x.toInt ≤ 256) : (x + -1).toInt = x.toInt - 1 := by rw [i32_add] <;> simp <;> omega
theorem own_le {B L : Int32} (hB : 0 ≤ B.toInt ∧ B.toInt ≤ 256) (hL : 0 ≤ L.toInt ∧ L.toInt ≤ 6) : (B + L).toInt = B.toInt + L.toInt := by rw [i32_add] <;> omega
theorem own_le2 {B L : Int32} (hB : 0 ≤ B.toInt ∧ B.toInt ≤ 256) (hL : 0 ≤ L.toInt ∧ L.toInt ≤ 6) (h : ¬ 256 < B + L) : B.toInt + L.toInt ≤ 256 := by
  have l : (256 : Int32) < B + L ↔ 256 < (B + L).toInt := i32_lt
  have := own_le hB hL
  rw [l, this] at h; omega
theorem own_dl {L : Int32} (hL : 0 ≤ L.toInt ∧ L.toInt ≤ 6) : (L - 1).toInt = L.toInt - 1 := by rw [i32_sub] <;> simp <;> omega
theorem own_s28k {bb pp : Int32} (q B : Int32) (y19 : 0 ≤ B.toInt ∧ B.toInt ≤ 256) (Q : Int32 → St → Prop) (h : ∀ v t, own_Y bb pp t → gI t 0 23 = q → Q v t) : ∀ k : Nat, k ≤ 6 → B.toInt + k ≤ 256 → ∀ x : Int32, x.toInt = (k : Int) - 1 → ∀ w, own_Y bb pp w → gI w 0 23 = q → wpcI PP 28 cm28 14 114 [some (.ref 0), none, none, none, some (.int B), some (.int x), none] [] w Q := by
  intro k
  induction k with
  | zero => exact fun _ _ x ex w Yw ew => c28_114 _ _ _ _ ⟨fun _ => h _ w Yw ew, fun z => absurd (by rw [i32_lt, ex]; decide) z⟩
  | succ k ih =>
    intro k6 kb x ex w Yw ew
    have x0 : x.toInt = k := by omega
    have eX : (B + x).toInt = B.toInt + x.toInt := own_le y19 ⟨by omega, by omega⟩
    have m := own_m1 (x := x) ⟨by omega, by omega⟩
    have p1 : 0 ≤ (B + x).toInt ∧ (B + x).toInt ≤ 255 := by omega
    have p2 : (x + -1).toInt = (k : Int) - 1 := by rw [m, x0]
    have nz : ¬ x < 0 := by rw [i32_lt, x0]; show ¬ ((k : Int) < 0); omega
    exact c28_114 _ _ _ _ ⟨fun z => absurd z nz, fun _ => own_s29 w Yw _ p1 _ fun t Yt et => ih (by omega) (by omega) _ p2 t Yt (by rw [et, ew])⟩
/-- expand -/
theorem own_s28 {bb pp : Int32} (s : St) (Y : own_Y bb pp s) (n r : Int32) (hn : 0 ≤ n.toInt ∧ n.toInt ≤ 255) (hr : 0 ≤ r.toInt ∧ r.toInt < 16) (sp : 1 ≤ (gI s 0 22).toInt) (Q : Int32 → St → Prop) (h : ∀ v t, own_Y bb pp t → gI t 0 23 = gI s 0 23 → Q v t) : calI PP 28 14 [.ref 0, .int n, .int r] s Q := by
  have y22 := Y.2.2.2.2.2.2.1
  have y19 := Y.2.2.2.2.1
  have l := Y.2.2.2.2.2.2.2.2.2.1 (ix r)
  have d := own_d1 (x := gI s 0 22) ⟨sp, y22.2⟩
  have d' : 0 ≤ (gI s 0 22 - 1).toInt ∧ (gI s 0 22 - 1).toInt ≤ 256 := by omega
  clear d y22 sp
  generalize eL : gI s 2 (ix r) = L at l
  generalize eB : gI s 0 19 = B at y19
  apply c28_in
  rw [eL, eB]
  have nb : inb 256 n := ⟨hn.1, by show _ < (256 : Int); omega⟩
  refine ⟨hr, fun _ => h _ s Y rfl, fun le => ⟨nb, ?_⟩⟩
  have le := own_le2 y19 l le
  have Y1 := own_Y_s (own_Y_s Y 12 (ix n) r (own_okf (by omega))) 0 22 _ (own_ok22 d')
  have q1 : gI (sI (sI s 12 (ix n) r) 0 22 (gI s 0 22 - 1)) 0 23 = gI s 0 23 := by rw [gI_sI, if_neg (by decide), gI_sI, if_neg (fun w => absurd w.1 (by decide))]
  refine loop_up (F := fun i => ∀ u, own_Y bb pp u → gI u 0 23 = gI s 0 23 → wpcI PP 28 cm28 14 47 [some (.ref 0), some (.int n), some (.int r), some (.int L), some (.int B), some (.int i), none] [] u Q) L.toInt (by omega) (fun i i0 i1 e ih u Yu e3 => ?_) (fun i hi u Yu e3 => ?_) 0 (by decide) (by simpa using l.1) _ Y1 q1
  · have eI : (B + i).toInt = B.toInt + i.toInt := own_le y19 ⟨i0, by omega⟩
    have ib : inb 256 (B + i) := ⟨by omega, by show _ < (256 : Int); omega⟩
    have v := Yu.2.2.2.2.2.2.2.2.2.2.1 (ix (r * 6 + i))
    have rk := own_rk hr (j := i) ⟨i0, by omega⟩
    refine c28_47 _ _ _ _ _ _ _ ⟨fun _ => ⟨rk, ib, ib, ib, ih _ (own_Y_s (own_Y_s (own_Y_s Yu 10 _ _ (own_ok10 v)) 11 _ _ (own_okf (by simp))) 12 _ _ (own_okf (by simp))) ?_⟩, fun w => absurd (by rw [i32_lt]; exact i1) w⟩
    rw [gI_sI, if_neg (fun w => absurd w.1 (by decide)), gI_sI, if_neg (fun w => absurd w.1 (by decide)), gI_sI, if_neg (fun w => absurd w.1 (by decide))]; exact e3
  · refine c28_47 _ _ _ _ _ _ _ ⟨fun w => absurd w (by rw [i32_lt, hi]; omega), fun _ => ?_⟩
    have eI := own_le y19 l
    have d1 := own_dl l
    have k1 : (L - 1).toInt = (L.toInt.toNat : Int) - 1 := by rw [d1]; omega
    exact own_s28k (gI s 0 23) B y19 Q h L.toInt.toNat (by omega) (by omega) _ k1 _ (own_Y_s Yu 0 19 _ (own_ok19 ⟨by omega, by omega⟩)) (by rw [gI_sI, if_neg (by decide)]; exact e3)
/-- predictStep -/
theorem own_s27 {bb pp : Int32} (s : St) (Y : own_Y bb pp s) (n a : Int32) (hn : 0 ≤ n.toInt ∧ n.toInt ≤ 255) (ha : 0 ≤ a.toInt ∧ a.toInt ≤ 2) (hp : (gI s 0 23).toInt ≤ 900000) (sp : 1 ≤ (gI s 0 22).toInt) (Q : Int32 → St → Prop) (h : ∀ v t, own_Y bb pp t → (gI t 0 23).toInt ≤ (gI s 0 23).toInt + 33 → Q v t) : calI PP 27 14 [.ref 0, .int n, .int a] s Q := by
  have b7 := Y.2.2.2.2.2.2.2.2.2.2.2.1
  have go : ∀ v : Int32, 0 ≤ v.toInt → v.toInt ≤ 4 → inb 128 (a * 16 + v) ∧ ((gI s 7 (ix (a * 16 + v)) < 0) → calV PP 31 14 [.ref 0, .int a] s (fun t => Q 1 t)) ∧ (¬ (gI s 7 (ix (a * 16 + v)) < 0) → calI PP 28 14 [.ref 0, .int n, .int (gI s 7 (ix (a * 16 + v)))] s (fun v t => Q (v &&& 1) t)) := fun v v0 v4 => by
    refine ⟨own_tk ha ⟨v0, v4⟩, fun _ => own_s31 s Y a ha hp sp _ fun t Yt et => h _ t Yt et, fun g => own_s28 s Y n _ hn ?_ sp _ fun v t Yt et => h _ t Yt (by rw [et]; omega)⟩
    have := b7 (ix (a * 16 + v))
    rw [i32_lt] at g; simp at g; exact ⟨g, by omega⟩
  apply c27_in
  exact own_s23 s Y _ (go 0 (by decide) (by decide)) fun v v0 v4 _ => go v v0 v4
/-- skipRest -/
theorem own_s25 {bb pp : Int32} (s : St) (Y : own_Y bb pp s) (Q : St → Prop) (h : ∀ t, own_Y bb pp t → Q t) : calV PP 25 14 [.ref 0] s Q := by
  apply c25_in
  refine loop_up (F := fun i => ∀ u, own_Y bb pp u → wpcV PP 25 cm25 14 2 [some (.ref 0), some (.int i)] [] u Q) 32 (by decide) (fun i i0 i1 e ih u Yu => ?_) (fun i hi u Yu => c25_2 _ _ _ ⟨fun w => absurd w (by rw [i32_lt, hi]; decide), fun _ => h u Yu⟩) 0 (by decide) (by decide) s Y
  have y23 := Yu.2.2.2.2.2.2.2.1
  have y18 := Yu.2.2.2.1
  refine c25_2 _ _ _ ⟨fun _ => ⟨fun lt => ?_, fun _ => h u Yu⟩, fun _ => h u Yu⟩
  rw [i32_lt] at lt
  refine ⟨⟨y23.1, by show _ < (32 : Int); omega⟩, own_s24 u Yu _ _ _ _ fun t Yt et => ?_⟩
  have u1 := own_v1 y23
  rw [et 23 (by decide)]
  exact ih _ (own_Y_s Yt 0 23 _ (own_ok23 ⟨by omega, by omega⟩))
/-- parse -/
theorem own_s22 {bb pp : Int32} (s : St) (Y : own_Y bb pp s) (Q : Int32 → St → Prop) (h0 : bb = 0 ∨ pp ≠ 0 → Q (-1) s) (h : ∀ v t, bb ≠ 0 → pp = 0 → own_Y bb 1 t → Q v t) : calI PP 22 14 [.ref 0] s Q := by
  have y24 := Y.2.2.2.2.2.2.2.2.2.2.2.2.2.2.2.1
  have y25 := Y.2.2.2.2.2.2.2.2.2.2.2.2.2.2.2.2
  apply c22_in
  rw [y24, y25]
  refine ⟨fun z => h0 (Or.inl z), fun n => ⟨fun z => ⟨by decide, by decide, by decide, by decide, ?_⟩, fun z => h0 (Or.inr z)⟩⟩
  have fin : ∀ u, own_Y bb 1 u → wpcI PP 22 cm22 14 142 [some (.ref 0), none, none, none] [] u Q := fun u Yu => c22_142 _ _ ⟨fun _ => h _ u n z Yu, fun _ => h _ u n z Yu⟩
  refine loop_up (F := fun i => ∀ u, own_Y bb 1 u → (gI u 0 23).toInt ≤ 40 * i.toInt → wpcI PP 22 cm22 14 67 [some (.ref 0), some (.int i), none, none] [] u Q) 2048 (by decide) (fun i i0 i1 e ih u Yu e3 => ?_) (fun i hi u Yu _ => c22_67 _ _ _ ⟨fun w => absurd w (by rw [i32_lt, hi]; decide), fun _ => fin u Yu⟩) 0 (by decide) (by decide) _ ?_ ?_
  · have y22 := Yu.2.2.2.2.2.2.1
    refine c22_67 _ _ _ ⟨fun _ => ⟨fun lt => ?_, fun _ => own_s25 u Yu _ fun t Yt => fin t Yt⟩, fun w => absurd (by rw [i32_lt]; exact i1) w⟩
    have sp : 1 ≤ (gI u 0 22).toInt := by rw [i32_lt] at lt; simp at lt; omega
    have d := own_d1 (x := gI u 0 22) ⟨sp, y22.2⟩
    have nn := Yu.2.2.2.2.2.2.2.2.2.2.2.2.2.2.1 (ix (gI u 0 22 - 1))
    have vv := Yu.2.2.2.2.2.2.2.2.2.2.2.2.2.1 (ix (gI u 13 (ix (gI u 0 22 - 1))))
    have nx : ∀ t, own_Y bb 1 t → (gI t 0 23).toInt ≤ (gI u 0 23).toInt + 33 → wpcI PP 22 cm22 14 136 [some (.ref 0), some (.int i), none, none] [] t Q := fun t Yt et => c22_136 _ _ _ (ih t Yt (by omega))
    refine ⟨⟨by omega, by show _ < (256 : Int); omega⟩, ⟨nn.1, by show _ < (256 : Int); omega⟩, fun _ => own_s26 u Yu _ _ nn (by omega) sp _ fun t Yt et => nx t Yt (by omega), fun g => own_s27 u Yu _ _ nn (own_nt vv g).1 (by omega) sp _ fun v t Yt et => ⟨fun _ => h _ t n z Yt, fun _ => nx t Yt et⟩⟩
  · exact own_Y_s (own_Y_s (own_Y_s (own_Y_s (own_Y_s (own_Y_s (own_Y_s (own_Y25 Y 1) 0 19 1 (own_ok19 ⟨by decide, by decide⟩)) 10 _ 16 (own_ok10 ⟨by decide, by decide⟩)) 11 _ _ (own_okf (by omega))) 12 _ _ (own_okf (by omega))) 13 _ 0 (own_ok13 ⟨by decide, by decide⟩)) 0 22 1 (own_ok22 ⟨by decide, by decide⟩)) 0 23 0 (own_ok23 ⟨by decide, by decide⟩)
  · rw [gI_sI, if_pos ⟨rfl, rfl⟩]; decide

theorem own_ex {m c : Nat} {as : List Value} {s : St} {Q : Int32 → St → Prop} (h : calI PP m c as s Q) : ∃ v s', (∀ R : Int32 → St → Prop, R v s' → calI PP m c as s R) ∧ Q v s' := by
  obtain ⟨f, r, s', e, v, er, q⟩ := h
  exact ⟨v, s', fun R hr => ⟨f, r, s', e, v, er, hr⟩, q⟩
theorem own_pure {m c : Nat} {as : List Value} {s : St} (h : calI PP m c as s (fun _ t => t = s)) : ∃ v, ∀ R : Int32 → St → Prop, R v s → calI PP m c as s R := by
  obtain ⟨v, t, hr, e⟩ := own_ex h
  subst e
  exact ⟨v, hr⟩
theorem own_ok1 {s : St} {j : Nat} {v : Int32} (h : 0 ≤ v.toInt ∧ v.toInt ≤ 2) : own_ok s 1 j v := ⟨fun a => absurd a (by decide), fun a => absurd a (by decide), fun a => absurd a (by decide), fun a => absurd a (by decide), fun a => absurd a (by decide), fun _ => h, fun a => absurd a (by decide), fun a => absurd a (by decide), fun a => absurd a (by decide), fun a => absurd a (by decide), fun a => absurd a (by decide)⟩
theorem own_ok2 {s : St} {j : Nat} {v : Int32} (h : 0 ≤ v.toInt ∧ v.toInt ≤ 6) : own_ok s 2 j v := ⟨fun a => absurd a (by decide), fun a => absurd a (by decide), fun a => absurd a (by decide), fun a => absurd a (by decide), fun a => absurd a (by decide), fun a => absurd a (by decide), fun _ => h, fun a => absurd a (by decide), fun a => absurd a (by decide), fun a => absurd a (by decide), fun a => absurd a (by decide)⟩
theorem own_ok3 {s : St} {j : Nat} {v : Int32} (h : 0 ≤ v.toInt ∧ v.toInt ≤ 18) : own_ok s 3 j v := ⟨fun a => absurd a (by decide), fun a => absurd a (by decide), fun a => absurd a (by decide), fun a => absurd a (by decide), fun a => absurd a (by decide), fun a => absurd a (by decide), fun a => absurd a (by decide), fun _ => h, fun a => absurd a (by decide), fun a => absurd a (by decide), fun a => absurd a (by decide)⟩
theorem own_ok9 {s : St} {j : Nat} {v : Int32} (h : 0 ≤ v.toInt ∧ v.toInt ≤ 4) : own_ok s 9 j v := ⟨fun a => absurd a (by decide), fun a => absurd a (by decide), fun a => absurd a (by decide), fun a => absurd a (by decide), fun a => absurd a (by decide), fun a => absurd a (by decide), fun a => absurd a (by decide), fun a => absurd a (by decide), fun a => absurd a (by decide), fun _ => h, fun a => absurd a (by decide)⟩
theorem own_ok17 {s : St} {v : Int32} (h : 0 ≤ v.toInt ∧ v.toInt ≤ 16) : own_ok s 0 17 v := ⟨fun _ => by decide, fun _ _ => h, fun _ b => absurd b (by decide), fun _ b => absurd b (by decide), fun _ b => absurd b (by decide), fun a => absurd a (by decide), fun a => absurd a (by decide), fun a => absurd a (by decide), fun a => absurd a (by decide), fun a => absurd a (by decide), fun a => absurd a (by decide)⟩
theorem own_ok18 {s : St} {v : Int32} (h : (gI s 0 18).toInt ≤ v.toInt ∧ v.toInt ≤ 32) : own_ok s 0 18 v := ⟨fun _ => by decide, fun _ b => absurd b (by decide), fun _ _ => h, fun _ b => absurd b (by decide), fun _ b => absurd b (by decide), fun a => absurd a (by decide), fun a => absurd a (by decide), fun a => absurd a (by decide), fun a => absurd a (by decide), fun a => absurd a (by decide), fun a => absurd a (by decide)⟩
theorem own_lt16 {x : Int32} : x < 16 ↔ x.toInt < 16 := i32_lt
theorem own_lt6 {x : Int32} : x < 6 ↔ x.toInt < 6 := i32_lt
theorem own_lt32 {x : Int32} : x < 32 ↔ x.toInt < 32 := i32_lt
theorem own_lt3 {x : Int32} : x < 3 ↔ x.toInt < 3 := i32_lt
theorem own_lt0 {x : Int32} : x < 0 ↔ x.toInt < 0 := i32_lt
theorem own_lt1 {x : Int32} : x < 1 ↔ x.toInt < 1 := i32_lt
theorem own_lt4 {x : Int32} : 4 < x ↔ 4 < x.toInt := i32_lt
theorem own_lt19 {x : Int32} : x < 16 + 3 ↔ x.toInt < 19 := i32_lt
/-- beginRule -/
theorem own_s3 {bb pp : Int32} (s : St) (Y : own_Y bb pp s) (a : Int32) (Q : Int32 → St → Prop) (h0 : Q (-1) s) (h : ∀ v t, 0 ≤ a.toInt → a.toInt < 3 → own_Y bb pp t → Q v t) : calI PP 3 14 [.ref 0, .int a] s Q := by
  have y17 := Y.2.2.1
  apply c3_in
  rw [Y.1]
  refine ⟨fun _ => ⟨fun _ => h0, fun n => ⟨fun l3 => ⟨fun lt => ?_, fun _ => h0⟩, fun _ => h0⟩⟩, fun _ => h0⟩
  rw [own_lt0] at n
  rw [own_lt3] at l3
  rw [own_lt16] at lt
  have u := own_u1 (x := gI s 0 17) ⟨y17.1, by omega⟩
  have ib : inb 16 (gI s 0 17) := ⟨y17.1, lt⟩
  exact ⟨ib, ib, h _ _ (by omega) l3 (own_Y_s (own_Y_s (own_Y_s Y 1 _ a (own_ok1 ⟨by omega, by omega⟩)) 2 _ 0 (own_ok2 ⟨by decide, by decide⟩)) 0 17 _ (own_ok17 ⟨by omega, by omega⟩))⟩
theorem own_s5 {bb pp : Int32} (s : St) (Y : own_Y bb pp s) (a : Int32) (Q : Int32 → St → Prop) (h0 : Q 0 s) (h : (1 ≤ a.toInt ∧ a.toInt ≤ 4) ∨ (16 ≤ a.toInt ∧ a.toInt ≤ 18) → Q 1 s) : calI PP 5 14 [.ref 0, .int a] s Q := by
  have go : wpcI PP 5 cm5 14 15 [some (.ref 0), some (.int a)] [] s Q := by
    apply c5_15
    rw [Y.1]
    refine ⟨fun _ => h0, fun n => ⟨fun l => h (Or.inr ?_), fun _ => h0⟩⟩
    rw [own_lt16] at n; rw [own_lt19] at l; omega
  apply c5_in
  rw [Y.2.1]
  refine ⟨fun _ => go, fun n => ⟨fun _ => go, fun l => h (Or.inl ?_)⟩⟩
  rw [own_lt1] at n; rw [own_lt4] at l; omega
theorem own_d16 {x : Int32} (h : 1 ≤ x.toInt ∧ x.toInt ≤ 16) : (x - 1).toInt = x.toInt - 1 := by rw [i32_sub] <;> simp <;> omega
/-- addSymbol -/
theorem own_s4 {bb pp : Int32} (s : St) (Y : own_Y bb pp s) (a : Int32) (Q : Int32 → St → Prop) (h0 : Q 0 s) (h : ∀ v t, (1 ≤ a.toInt ∧ a.toInt ≤ 4) ∨ (16 ≤ a.toInt ∧ a.toInt ≤ 18) → own_Y bb pp t → Q v t) : calI PP 4 14 [.ref 0, .int a] s Q := by
  have y17 := Y.2.2.1
  apply c4_in
  refine ⟨fun _ => ⟨fun _ => h0, fun n => ?_⟩, fun _ => h0⟩
  have n1 : 1 ≤ (gI s 0 17).toInt := by
    have : (gI s 0 17).toInt ≠ (0 : Int32).toInt := fun q => n ((i32_eq).mpr q)
    have z : (0 : Int32).toInt = 0 := by decide
    rw [z] at this; omega
  have d := own_d16 (x := gI s 0 17) ⟨n1, y17.2⟩
  generalize gI s 0 17 - 1 = r at d
  have rb : 0 ≤ r.toInt ∧ r.toInt < 16 := by omega
  have l := Y.2.2.2.2.2.2.2.2.2.1 (ix r)
  refine ⟨rb, fun lt => own_s5 s Y a _ ⟨fun _ => h0, fun q => absurd rfl q⟩ fun ha => ⟨fun q => absurd q (by decide), fun _ => ?_⟩, fun _ => h0⟩
  rw [own_lt6] at lt
  have u := own_u1 (x := gI s 2 (ix r)) ⟨l.1, by omega⟩
  have ha2 : 0 ≤ a.toInt ∧ a.toInt ≤ 18 := by rcases ha with q | q <;> omega
  exact ⟨rb, own_rk rb ⟨l.1, lt⟩, rb, rb, h _ _ ha (own_Y_s (own_Y_s Y 3 _ a (own_ok3 ha2)) 2 _ _ (own_ok2 ⟨by omega, by omega⟩))⟩
/-- token -/
theorem own_s21 {bb pp : Int32} (s : St) (Y : own_Y bb pp s) (a : Int32) (Q : Int32 → St → Prop) (h0 : Q 0 s) (h : ∀ v t, pp = 0 → 1 ≤ a.toInt → a.toInt ≤ 4 → own_Y bb pp t → Q v t) : calI PP 21 14 [.ref 0, .int a] s Q := by
  have y18 := Y.2.2.2.1
  have y25 := Y.2.2.2.2.2.2.2.2.2.2.2.2.2.2.2.2
  apply c21_in
  rw [Y.2.1, y25]
  refine ⟨fun z => ⟨fun lt => ⟨fun _ => h0, fun n => ⟨fun _ => h0, fun l => ?_⟩⟩, fun _ => h0⟩, fun _ => h0⟩
  rw [own_lt1] at n; rw [own_lt4] at l; rw [own_lt32] at lt
  have u := own_u1 (x := gI s 0 18) ⟨y18.1, by omega⟩
  have Y1 := own_Y_s Y 9 (ix (gI s 0 18)) a (own_ok9 ⟨by omega, by omega⟩)
  have e18 : gI (sI s 9 (ix (gI s 0 18)) a) 0 18 = gI s 0 18 := by rw [gI_sI, if_neg (fun w => absurd w.1 (by decide))]
  exact ⟨⟨y18.1, lt⟩, h _ _ z (by omega) (by omega) (own_Y_s Y1 0 18 _ (own_ok18 (by rw [e18]; exact ⟨by omega, by omega⟩)))⟩
/-- the queries leave the state -/
theorem own_lt256 {x : Int32} : x < 256 ↔ x.toInt < 256 := i32_lt
theorem own_lt4' {x : Int32} : (4 : Int32) < x ↔ 4 < x.toInt := i32_lt
theorem own_q19 {bb pp : Int32} (s : St) (Y : own_Y bb pp s) (a b : Int32) : calI PP 19 14 [.ref 0, .int a, .int b] s (fun _ t => t = s) := by
  apply c19_in
  rw [Y.1, Y.2.1]
  refine ⟨fun _ => rfl, fun _ => ⟨fun _ => rfl, fun a0 => ⟨fun a1 => ⟨fun _ => rfl, fun b0 => ⟨fun _ => rfl, fun b1 => ⟨?_, rfl⟩⟩⟩, fun _ => rfl⟩⟩⟩
  rw [own_lt0] at a0 b0; rw [own_lt3] at a1; rw [own_lt4'] at b1
  exact own_tk ⟨by omega, by omega⟩ ⟨by omega, by omega⟩
theorem own_q16 {bb pp : Int32} (s : St) (Y : own_Y bb pp s) (a : Int32) : calI PP 16 14 [.ref 0, .int a] s (fun _ t => t = s) := by
  apply c16_in
  rw [Y.1]
  refine ⟨fun _ => rfl, fun _ => ⟨fun _ => rfl, fun a0 => ⟨fun a1 => ⟨?_, rfl⟩, fun _ => rfl⟩⟩⟩
  rw [own_lt0] at a0; rw [own_lt3] at a1
  exact ⟨by omega, by show _ < (8 : Int); omega⟩
theorem own_q17 {bb pp : Int32} (s : St) (Y : own_Y bb pp s) (a : Int32) : calI PP 17 14 [.ref 0, .int a] s (fun _ t => t = s) := by
  apply c17_in
  rw [Y.1]
  refine ⟨fun _ => rfl, fun _ => ⟨fun _ => rfl, fun a0 => ⟨fun a1 => ⟨?_, rfl⟩, fun _ => rfl⟩⟩⟩
  rw [own_lt0] at a0; rw [own_lt3] at a1
  exact ⟨by omega, by show _ < (8 : Int); omega⟩
theorem own_q18 {bb pp : Int32} (s : St) (Y : own_Y bb pp s) (a : Int32) : calI PP 18 14 [.ref 0, .int a] s (fun _ t => t = s) := by
  apply c18_in
  rw [Y.1]
  refine ⟨fun _ => rfl, fun _ => ⟨fun _ => rfl, fun a0 => ⟨fun a1 => ⟨?_, rfl⟩, fun _ => rfl⟩⟩⟩
  rw [own_lt0] at a0; rw [own_lt3] at a1
  exact ⟨by omega, by show _ < (8 : Int); omega⟩
theorem own_i256 {a : Int32} (a0 : ¬ a < 0) (a1 : a < 256) : inb 256 a := by
  rw [own_lt0] at a0; rw [own_lt256] at a1
  exact ⟨by omega, by show _ < (256 : Int); omega⟩
theorem own_q20 (s : St) (a : Int32) : calI PP 20 14 [.ref 0, .int a] s (fun _ t => t = s) := by
  apply c20_in
  exact ⟨fun _ => rfl, fun _ => ⟨fun _ => rfl, fun a0 => ⟨fun _ => ⟨fun a1 => ⟨own_i256 a0 a1, rfl⟩, fun _ => rfl⟩, fun _ => rfl⟩⟩⟩
theorem own_q35 (s : St) (a : Int32) : calI PP 35 14 [.ref 0, .int a] s (fun _ t => t = s) := by
  apply c35_in
  exact ⟨fun _ => rfl, fun a0 => ⟨fun _ => ⟨fun a1 => ⟨own_i256 a0 a1, rfl⟩, fun _ => rfl⟩, fun _ => rfl⟩⟩
theorem own_q36 (s : St) (a : Int32) : calI PP 36 14 [.ref 0, .int a] s (fun _ t => t = s) := by
  apply c36_in
  exact ⟨fun _ => rfl, fun a0 => ⟨fun _ => ⟨fun a1 => ⟨own_i256 a0 a1, rfl⟩, fun _ => rfl⟩, fun _ => rfl⟩⟩
theorem own_q37 (s : St) (a : Int32) : calI PP 37 14 [.ref 0, .int a] s (fun _ t => t = s) := by
  apply c37_in
  exact ⟨fun _ => rfl, fun a0 => ⟨fun _ => ⟨fun a1 => ⟨own_i256 a0 a1, rfl⟩, fun _ => rfl⟩, fun _ => rfl⟩⟩
theorem own_m64 {x a m : Int32} (hm : m = if (64 : Int32) < x then 64 else x) (a0 : ¬ a < 0) (a1 : a < m) : inb 64 a := by
  have c : (64 : Int32).toInt = 64 := by decide
  rw [own_lt0] at a0
  rw [i32_lt] at a1
  have : m.toInt ≤ 64 := by
    rw [hm]
    split
    · rw [c]; omega
    · rename_i h
      rw [i32_lt, c] at h; omega
  exact ⟨by omega, by show _ < (64 : Int); omega⟩
theorem own_q33 (s : St) (a : Int32) : calI PP 33 14 [.ref 0, .int a] s (fun _ t => t = s) := by
  apply c33_in
  exact fun m hm => ⟨fun _ => rfl, fun a0 => ⟨fun a1 => ⟨own_m64 hm a0 a1, rfl⟩, fun _ => rfl⟩⟩
theorem own_same (N : Nat) (sg : Nat → Int32) {bb pp : Int32} (s : St) (Y : own_Y bb pp s) (R : Int32 → Wd → Prop) (h : R 1 (W2 s s)) : lalI PP QQ (some (N, sg)) 4 [.ref 1, .ref 2] (W2 s s) R := by
  have p5 : wplI PP QQ (some (N, sg)) 4 lm4 207 [some (.ref 1), some (.ref 2), some (.int (0 : Int32)), none, none] [] (W2 s s) R := by
    refine loop_up (F := fun i => wplI PP QQ (some (N, sg)) 4 lm4 207 [some (.ref 1), some (.ref 2), some (.int i), none, none] [] (W2 s s) R) 64 (by decide) (fun i i0 i1 e ih => ?_) (fun i hi => ?_) 0 (by decide) (by decide)
    · obtain ⟨v, hv⟩ := own_pure (own_q33 s i)
      exact l4r1r2W2_207 _ _ _ _ _ _ ⟨fun _ => hv _ (hv _ ⟨fun _ => ih, fun q => absurd rfl q⟩), fun q => absurd (by rw [i32_lt]; exact i1) q⟩
    · exact l4r1r2W2_207 _ _ _ _ _ _ ⟨fun q => absurd q (by rw [i32_lt, hi]; decide), fun _ => h⟩
  have p4 : wplI PP QQ (some (N, sg)) 4 lm4 151 [some (.ref 1), some (.ref 2), some (.int (0 : Int32)), none, none] [] (W2 s s) R := by
    refine loop_up (F := fun i => wplI PP QQ (some (N, sg)) 4 lm4 151 [some (.ref 1), some (.ref 2), some (.int i), none, none] [] (W2 s s) R) 256 (by decide) (fun i i0 i1 e ih => ?_) (fun i hi => ?_) 0 (by decide) (by decide)
    · obtain ⟨v, hv⟩ := own_pure (own_q35 s i)
      obtain ⟨w, hw⟩ := own_pure (own_q36 s i)
      obtain ⟨x, hx⟩ := own_pure (own_q37 s i)
      exact l4r1r2W2_151 _ _ _ _ _ _ ⟨fun _ => hv _ (hv _ ⟨fun _ => hw _ (hw _ ⟨fun _ => hx _ (hx _ ⟨fun _ => ih, fun q => absurd rfl q⟩), fun q => absurd rfl q⟩), fun q => absurd rfl q⟩), fun q => absurd (by rw [i32_lt]; exact i1) q⟩
    · exact l4r1r2W2_151 _ _ _ _ _ _ ⟨fun q => absurd q (by rw [i32_lt, hi]; decide), fun _ => p5⟩
  have p3 : wplI PP QQ (some (N, sg)) 4 lm4 98 [some (.ref 1), some (.ref 2), some (.int (0 : Int32)), none, none] [] (W2 s s) R := by
    refine loop_up (F := fun i => wplI PP QQ (some (N, sg)) 4 lm4 98 [some (.ref 1), some (.ref 2), some (.int i), none, none] [] (W2 s s) R) 81 (by decide) (fun i i0 i1 e ih => ?_) (fun i hi => ?_) 0 (by decide) (by decide)
    · obtain ⟨v, hv⟩ := own_pure (own_q20 s i)
      exact l4r1r2W2_98 _ _ _ _ _ _ ⟨fun _ => hv _ (hv _ ⟨fun _ => ih, fun q => absurd rfl q⟩), fun q => absurd (by rw [i32_lt]; exact i1) q⟩
    · exact l4r1r2W2_98 _ _ _ _ _ _ ⟨fun q => absurd q (by rw [i32_lt, hi]; decide), fun _ => c34_in _ _ (c34_in _ _ ⟨fun _ => c32_in _ _ (c32_in _ _ ⟨fun _ => p4, fun q => absurd rfl q⟩), fun q => absurd rfl q⟩)⟩
  have p2 : wplI PP QQ (some (N, sg)) 4 lm4 44 [some (.ref 1), some (.ref 2), some (.int (0 : Int32)), none, none] [] (W2 s s) R := by
    refine loop_up (F := fun i => wplI PP QQ (some (N, sg)) 4 lm4 44 [some (.ref 1), some (.ref 2), some (.int i), none, none] [] (W2 s s) R) 3 (by decide) (fun i i0 i1 e ih => ?_) (fun i hi => ?_) 0 (by decide) (by decide)
    · obtain ⟨v, hv⟩ := own_pure (own_q16 s Y i)
      obtain ⟨w, hw⟩ := own_pure (own_q17 s Y i)
      obtain ⟨x, hx⟩ := own_pure (own_q18 s Y i)
      exact l4r1r2W2_44 _ _ _ _ _ _ ⟨fun _ => hv _ (hv _ ⟨fun _ => hw _ (hw _ ⟨fun _ => hx _ (hx _ ⟨fun _ => ih, fun q => absurd rfl q⟩), fun q => absurd rfl q⟩), fun q => absurd rfl q⟩), fun q => absurd (by rw [i32_lt]; exact i1) q⟩
    · exact l4r1r2W2_44 _ _ _ _ _ _ ⟨fun q => absurd q (by rw [i32_lt, hi]; decide), fun _ => p3⟩
  apply l4r1r2W2_in
  refine loop_up (F := fun i => wplI PP QQ (some (N, sg)) 4 lm4 2 [some (.ref 1), some (.ref 2), some (.int i), none, none] [] (W2 s s) R) 15 (by decide) (fun i i0 i1 e ih => ?_) (fun i hi => ?_) 0 (by decide) (by decide)
  · obtain ⟨v, hv⟩ := own_pure (own_q19 s Y (i / 5) (i % 5))
    exact l4r1r2W2_2 _ _ _ _ _ _ ⟨fun _ => hv _ (hv _ ⟨fun _ => ih, fun q => absurd rfl q⟩), fun q => absurd (by rw [i32_lt]; exact i1) q⟩
  · exact l4r1r2W2_2 _ _ _ _ _ _ ⟨fun q => absurd q (by rw [i32_lt, hi]; decide), fun _ => p2⟩
/-- the extra calls are refused -/
theorem own_extra (N : Nat) (sg : Nat → Int32) {bb pp : Int32} (s : St) (Y : own_Y bb pp s) (e : Int32) (R : Int32 → Wd → Prop) (h : R 1 (W2 s s)) : lalI PP QQ (some (N, sg)) 3 [.ref 1, .int e, .int bb] (W2 s s) R := by
  apply l3r1W2_in
  refine ⟨fun _ => own_s3 s Y _ _ ⟨fun _ => h, fun q => absurd rfl q⟩ fun v t a b => absurd b (by decide), fun _ => ⟨fun _ => own_s3 s Y _ _ ⟨fun _ => h, fun q => absurd rfl q⟩ fun v t a b => absurd a (by decide), fun _ => ⟨fun _ => own_s4 s Y _ _ ⟨fun _ => h, fun q => absurd rfl q⟩ fun v t a => absurd a (by decide), fun _ => ⟨fun _ => own_s4 s Y _ _ ⟨fun _ => h, fun q => absurd rfl q⟩ fun v t a => absurd a (by decide), fun _ => ⟨fun _ => own_s4 s Y _ _ ⟨fun _ => h, fun q => absurd rfl q⟩ fun v t a => absurd a (by decide), fun _ => ⟨fun _ => ⟨fun z => own_s22 s Y _ (fun _ => ⟨fun _ => h, fun q => absurd rfl q⟩) fun v t a => absurd z a, fun z => own_s6 s Y _ (fun _ => ⟨fun _ => h, fun q => absurd rfl q⟩) fun v t a => absurd a z⟩, fun _ => ⟨fun _ => own_s21 s Y _ _ ⟨fun _ => h, fun q => absurd rfl q⟩ fun v t a b c => absurd b (by decide), fun _ => ⟨fun _ => own_s21 s Y _ _ ⟨fun _ => h, fun q => absurd rfl q⟩ fun v t a b c => absurd c (by decide), fun _ => h⟩⟩⟩⟩⟩⟩⟩⟩
theorem own_clamp (x lo hi : Int32) (s : St) (Q : Int32 → St → Prop) (h : Q (if x < lo then lo else if hi < x then hi else x) s) : calI PP 2 14 [.ref 0, .int x, .int lo, .int hi] s Q := by
  apply c2_in
  refine ⟨fun a => ?_, fun a => ⟨fun b => ?_, fun b => ?_⟩⟩
  · rw [if_pos a] at h; exact h
  · rw [if_neg a, if_pos b] at h; exact h
  · rw [if_neg a, if_neg b] at h; exact h
theorem own_z0 {c k : Nat} : 0 ≤ (gI s0 c k).toInt ∧ (gI s0 c k).toInt ≤ 0 := by
  show 0 ≤ (0 : Int32).toInt ∧ (0 : Int32).toInt ≤ 0
  decide
theorem own_x0 (c k : Nat) (hc : c ≠ 0) {v0 v1 v2 v3 v4 v5 v6 v7 v8 v9 v10 : Int32} : gI (sI (sI (sI (sI (sI (sI (sI (sI (sI (sI (sI s0 0 15 v0) 0 16 v1) 0 17 v2) 0 18 v3) 0 19 v4) 0 20 v5) 0 21 v6) 0 22 v7) 0 23 v8) 0 24 v9) 0 25 v10) c k = 0 := by
  iterate 11 rw [gI_sI, if_neg (fun w => hc w.1)]
  rfl
theorem own_start : own_Y 0 0 (sI (sI (sI (sI (sI (sI (sI (sI (sI (sI (sI s0 0 15 3) 0 16 4) 0 17 0) 0 18 0) 0 19 0) 0 20 0) 0 21 0) 0 22 0) 0 23 0) 0 24 0) 0 25 0) := by
  refine ⟨by simp [gI_sI], by simp [gI_sI], by simp [gI_sI], by simp [gI_sI], by simp [gI_sI], by simp [gI_sI], by simp [gI_sI], by simp [gI_sI], fun r => ?_, fun r => ?_, fun r => ?_, fun r => ?_, fun r => ?_, fun r => ?_, fun r => ?_, by simp [gI_sI], by simp [gI_sI]⟩ <;> rw [own_x0 _ _ (by decide)] <;> decide
theorem law_ok (N : Nat) (sg : Nat → Int32) (hN : (N : Int) ≤ (260 : Int32).toInt) : lalI PP QQ (some (N, sg)) 0 [.ref 0] W0 (fun v _ => v = 1) := by
  have e260 : (260 : Int32).toInt = 260 := by decide
  have eN : (Int32.ofNat N).toInt = N := Int32.toInt_ofNat_of_lt (by omega)
  have key : ∀ (n : Nat) (i bb pp : Int32) (s : St), 0 ≤ i.toInt → i.toInt + n = N + 4 → own_Y bb pp s → wplI PP QQ (some (N, sg)) 0 lm0 25 [some (.ref 0), some (.ref 1), some (.ref 2), some (.int bb), some (.int i), none, none, none, none] [] (W2 s s) (fun v _ => v = 1) := by
    intro n
    induction n using Nat.strongRecOn with
    | _ n ih =>
    intro i bb pp s i0 hn Y
    have e1 : (i + 1).toInt = i.toInt + 1 := by rw [i32_add] <;> simp <;> omega
    have e2 : (i + 2).toInt = i.toInt + 2 := by rw [i32_add] <;> simp <;> omega
    have e3 : (i + 3).toInt = i.toInt + 3 := by rw [i32_add] <;> simp <;> omega
    refine l0_25 _ _ _ _ _ ⟨fun a => ?_, fun _ => ?_⟩
    · rw [i32_lt, eN, e2] at a
      have nx : ∀ (b p : Int32) (t : St), own_Y b p t → wplI PP QQ (some (N, sg)) 0 lm0 239 [some (.ref 0), some (.ref 1), some (.ref 2), some (.int b), some (.int i), none, none, none, none] [] (W2 t t) (fun v _ => v = 1) := fun b p t Yt => l0_239 _ _ _ _ _ (ih (n - 3) (by omega) (i + 3) b p t (by omega) (by omega) Yt)
      refine ⟨⟨by omega, by omega⟩, ⟨by omega, by omega⟩, ⟨by omega, by omega⟩, own_extra N sg s Y _ _ ⟨s, s, rfl, fun q => absurd q (by decide), fun _ => ?_⟩⟩
      generalize (sg (ix i)) &&& (7 : Int32) = a1
      generalize (sg (ix (i + (1 : Int32)))) &&& (7 : Int32) = a2
      have beg : wplI PP QQ (some (N, sg)) 0 lm0 134 [some (.ref 0), some (.ref 1), some (.ref 2), some (.int bb), some (.int i), none, some (.int a2), none, none] [] (W2 s s) (fun v _ => v = 1) := by
        obtain ⟨v, t, hv, Yt⟩ := own_ex (own_s3 s Y (a2 &&& 3) (fun _ t => own_Y bb pp t) Y (fun _ t _ _ Yt => Yt))
        exact l0_134 _ _ _ _ _ _ (hv _ (hv _ ⟨fun _ => nx _ _ _ Yt, fun q => absurd rfl q⟩))
      refine ⟨fun _ => ⟨fun _ => beg, fun _ => ⟨fun _ => beg, fun _ => ⟨fun _ => ?_, fun _ => ⟨fun _ => ?_, fun _ => ?_⟩⟩⟩⟩, fun _ m _ => ?_⟩
      · obtain ⟨v, t, hv, Yt⟩ := own_ex (own_s21 s Y (a2 % 6) (fun _ t => own_Y bb pp t) Y (fun _ t _ _ _ Yt => Yt))
        exact hv _ (hv _ ⟨fun _ => nx _ _ _ Yt, fun q => absurd rfl q⟩)
      · obtain ⟨v, t, hv, Yt⟩ := own_ex (own_s6 s Y (fun v t => own_Y (if v < 0 then bb else 1) pp t) (fun _ => Y) (fun v t _ v0 Yt => by rw [if_neg (by rw [own_lt0]; omega)]; exact Yt))
        exact hv _ (hv _ ⟨fun _ m hm => nx _ pp _ (hm ▸ Yt), fun q => absurd rfl q⟩)
      · obtain ⟨v, t, hv, p', Yt⟩ := own_ex (own_s22 s Y (fun _ t => ∃ p', own_Y bb p' t) (fun _ => ⟨pp, Y⟩) (fun v t _ _ Yt => ⟨1, Yt⟩))
        exact hv _ (hv _ ⟨fun _ => nx _ _ _ Yt, fun q => absurd rfl q⟩)
      · obtain ⟨v, t, hv, Yt⟩ := own_ex (own_s4 s Y m (fun _ t => own_Y bb pp t) Y (fun _ t _ Yt => Yt))
        exact hv _ (hv _ ⟨fun _ => nx _ _ _ Yt, fun q => absurd rfl q⟩)
    · obtain ⟨v, t, hv, b', b0, Yt⟩ := own_ex (own_s6 s Y (fun v t => ∃ b', b' ≠ 0 ∧ own_Y b' pp t) (fun b0 => ⟨bb, b0, Y⟩) (fun v t _ v0 Yt => ⟨1, by decide, Yt⟩))
      obtain ⟨w, u, hw, p', p0, Yu⟩ := own_ex (own_s22 t Yt (fun _ u => ∃ p', p' ≠ 0 ∧ own_Y b' p' u) (fun q => q.elim (fun z => absurd z b0) fun z => ⟨pp, z, Yt⟩) (fun v t _ _ Yt => ⟨1, by decide, Yt⟩))
      refine hv _ (hv _ ⟨fun _ => own_s6 t Yt _ (fun _ => ⟨fun _ => ?_, fun q => absurd rfl q⟩) (fun _ _ z => absurd z b0), fun q => absurd rfl q⟩)
      refine hw _ (hw _ ⟨fun _ => own_s22 u Yu _ (fun _ => ⟨fun _ => ?_, fun q => absurd rfl q⟩) (fun _ _ _ z => absurd z p0), fun q => absurd rfl q⟩)
      exact own_s21 u Yu _ _ ⟨fun _ => own_same N sg u Yu _ ⟨u, u, rfl, by decide⟩, fun q => absurd rfl q⟩ (fun _ _ z => absurd z p0)
  apply l0_in
  have ct : ∀ Q : St → Prop, Q (sI (sI (sI (sI (sI (sI (sI (sI (sI (sI (sI s0 0 15 3) 0 16 4) 0 17 0) 0 18 0) 0 19 0) 0 20 0) 0 21 0) 0 22 0) 0 23 0) 0 24 0) 0 25 0) → calV PP 0 0 [.ref 0, .int (3 : Int32), .int (4 : Int32)] s0 Q := by
    intro Q hq
    apply c0_in
    apply own_clamp
    apply own_clamp
    exact hq
  exact ct _ (ct _ (key (N + 4) 0 0 0 _ (by decide) (by show (0 : Int) + _ = _; omega) own_start))
theorem comes_1 {Post : Tables → Env → Array Value → State → Outcome → State → Prop} (hpost : ∀ tb e args s v u, (limb_1_1.after args s (.returned v) u = true ∧ limb_1_2.after args s (.returned v) u = true ∧ True) → FrameEnd s (.returned v) u (Jvm.fieldLocs frame_1_writes args s ++ Jvm.arrayLocs frame_1_arrays args s ++ Jvm.staticLocs frame_1_statics s) 72 6848 → Post tb e args s (.returned v) u) :
    ArmFor flags0 classFile x code maxLocals ret World_1 tables_1 room_1 Calls_1 rest_1 Pre_1 Post := by
  intro l hfl _ _ p e ha hc hk s m args below hf hA hF happ hP
  obtain ⟨hcalls, hrest, hpre⟩ := hP
  obtain ⟨-, -, -, hnamed, -, -, -, hat⟩ := (Spec.applies_iff hf).mp happ
  obtain ⟨hg, hn⟩ := and_e (Cond.before_iff.mp (show (Jvm.Cond.and given_1 narrow_1).before args s = true from hpre))
  obtain ⟨h1, g0⟩ := and_e hg
  obtain ⟨w0, rfl⟩ : ∃ w0 : Value, args = #[w0] := by
    have hs : args.size = 1 := by simpa [Cond.value, given_1] using h1
    obtain ⟨L⟩ := args
    match L, hs with
    | [w0], _ => exact ⟨w0, rfl⟩
  have hw := fun d (hd : d ∈ tables_1) => atoms_spec (ws := Jvm.Cond.code x code maxLocals ret :: tables_1) hat d (List.mem_cons_of_mem _ hd)
  have hfit : Fit s := fun {y c} hc i hi => by
    obtain ⟨ha, rfl⟩ := Array.getElem?_eq_some_iff.mp hc
    have q := List.all_eq_true.mp ((Array.all_eq_true_iff_forall_mem.mp hF) _ (Array.getElem_mem ha)) i (List.mem_range.mpr hi)
    simpa [Array.getElem?_eq_getElem hi] using q
  obtain ⟨hn1, hn2⟩ := and_e hn
  obtain ⟨a, ea⟩ := arr_v hn1
  obtain rfl : w0 = .ref a := Option.some.inj ea
  obtain ⟨cl, A⟩ := Arr.start ea hn1
  obtain ⟨⟨-, hN⟩, hS⟩ := script_of hfit A ea hn2
  obtain ⟨f, w0, hr⟩ := law_run (law_ok cl.slots.size (fun i => match cl.slots[i]? with | some (.int x) => x | _ => 0) hN) (me := lm0) rfl
  have M : MetFree l x (head1 (Jvm.Cond.code x code maxLocals ret :: tables_1) room_1) (fun b U => b = #[.ref a] ∧ s.Warmed39 U.vm ∧ U.heap = s.heap) (fun _ _ _ _ _ => True) (fun _ U o U' => ∃ u L, o = .returned u ∧ (u = some (.int 1) ∧ Fr s.heap.size L) ∧ FrameEnd U o U' L 72 6848) :=
    law_met (lkC s _ hw) (lkL s _ hw) (sc := some (cl.slots.size, fun i => match cl.slots[i]? with | some (.int x) => x | _ => 0)) (a := a) (me := lm0) rfl l (bytes := code) (chk_ok dk_l0) (as := [.ref 0]) rfl (Nat.le_of_ble_eq_true rfl) hr hS
  obtain ⟨n, o, h1, h2, h3, _, L, rfl, ⟨rfl, N⟩, hq⟩ := M p e ha hc hk s m _ below hf ((Spec.applies_iff_loose hf).mp happ).1 ⟨rfl, State.Warmed39.refl s, rfl⟩ trivial
  refine ⟨n, _, h1, h2, h3, hpost _ _ _ _ _ _ ⟨Cond.after_iff.mpr rfl, Cond.after_iff.mpr (eq_i res_at (Term.int_eval (1)) rfl), trivial⟩ ⟨hq.1, hq.2.1, (hq.2.2.sift fun y hy => Or.inr (N y hy)).mono (by decide) (by decide)⟩⟩
theorem main_1_1 : Claimed_1_1 := comes_1 fun _ _ _ _ _ _ h hF => ⟨h.1, hF⟩
theorem main_1_2 : Claimed_1_2 := comes_1 fun _ _ _ _ _ _ h hF => ⟨h.2.1, hF⟩
end Jvm.Pilot.@@N@@
namespace Jvm.Pilot.@@N@@
open Jvm Jvm.ClassFile Sem Op Lib Jvm.Free Jvm.Stand Jvm.Pilot.@@N@@.Jvm.D
/-! MADE BY PROGRAM (witnessworld.py) out of the Statement's table words and the real class files: 11 classes; the members and pool entries that the words name. The judged class is class 1, her method 1. -/
namespace start1
open Jvm.ClassFile
def u (s : String) : CpInfo := .utf8 (stringToUtf16 s)
/-- a pool by its gaps: so many unusable entries, then the entry; so many at the end -/
def gap : Nat → List CpInfo → List CpInfo
  | 0, r => r
  | n + 1, r => .unusable :: gap n r
def poolList (es : List (Nat × CpInfo)) (last : Nat) : List CpInfo := es.foldr (fun e r => gap e.1 (e.2 :: r)) (gap last [])
def pool (es : List (Nat × CpInfo)) (last : Nat) : Array CpInfo := ⟨poolList es last⟩
def fileOf (pool : Array CpInfo) (this : Nat) (attrs : Array Attribute := #[]) (ms : Array MethodInfo := #[]) (fl : Nat := 33) (sup : Nat := 0) (ifs : Array Nat := #[]) (fds : Array FieldInfo := #[]) : ClassFile where
  minorVersion := 0
  majorVersion := 65
  constantPool := pool
  accessFlags := fl
  thisClass := this
  superClass := sup
  interfaces := ifs
  fields := fds
  methods := ms
  attributes := attrs
def plain (name : String) (sup : Option ClassId) : Class where
  name := name
  kind := .ordinary
  loader := none
  accessFlags := 33
  super := sup
  interfaces := #[]
  cf := none
  fields := #[]
  methods := #[]
  instanceTypes := #[]
  staticTypes := #[]
  resolved := #[]
  callSites := []
  init := .initialized
  statics := none
  mirror := none

def pool0 : Array CpInfo := pool [(5, u "<init>"), (0, u "()V"), (1, .class_ 10), (1, u "java/lang/Object")] 113

def k0c0 : Code := { maxStack := 0, maxLocals := 1, code := object_method_1_code, exceptionTable := #[], attributes := #[] }
def k0m0 : Method := { name := "<init>", desc := "()V", sig := { parameters := [], returnType := none }, accessFlags := 1, code := some k0c0 }
/-- java/lang/Object -/
def k0 : Class := { plain "java/lang/Object" none with
  accessFlags := 33
  interfaces := #[]
  cf := some (fileOf pool0 8 #[] #[{ accessFlags := 1, nameIndex := 5, descriptorIndex := 6, attributes := #[] }] 33 0 #[] #[])
  fields := #[]
  methods := #[k0m0]
  instanceTypes := #[]
  staticTypes := #[]
  resolved := Array.replicate 124 none
  statics := none }

def pool1 : Array CpInfo := pool [(2, .class_ 4), (1, u "java/lang/Object"), (0, u "<init>"), (0, u "()V"), (0, .class_ 8), (0, u "Ll1RecoverGen"), (0, .methodref 7 10), (0, .nameAndType 5 11), (0, u "(II)V"), (0, .methodref 13 14), (0, .class_ 15), (0, .nameAndType 16 17), (0, u "Ll1RecoverGenL7"), (0, u "extra"), (0, u "(LLl1RecoverGen;IZ)Z"), (0, .methodref 7 19), (0, .nameAndType 20 21), (0, u "addSymbol"), (0, u "(I)Z"), (0, .methodref 7 23), (0, .nameAndType 24 25), (0, u "beginRule"), (0, u "(I)I"), (0, .methodref 7 27), (0, .nameAndType 28 21), (0, u "token"), (0, .methodref 7 30), (0, .nameAndType 31 32), (0, u "build"), (0, u "()I"), (0, .methodref 7 34), (0, .nameAndType 35 32), (0, u "parse"), (0, .methodref 13 37), (0, .nameAndType 38 39), (0, u "same"), (0, u "(LLl1RecoverGen;LLl1RecoverGen;)Z"), (0, .methodref 7 41), (0, .nameAndType 42 43), (0, u "tableEntry"), (0, u "(II)I"), (0, .methodref 7 45), (0, .nameAndType 46 21), (0, u "nullable"), (0, .methodref 7 48), (0, .nameAndType 49 25), (0, u "firstSet"), (0, .methodref 7 51), (0, .nameAndType 52 25), (0, u "followSet"), (0, .methodref 7 54), (0, .nameAndType 55 25), (0, u "conflict"), (0, .methodref 7 57), (0, .nameAndType 58 32), (0, u "nodeCount"), (0, .methodref 7 60), (0, .nameAndType 61 32), (0, u "errorCount"), (0, .methodref 7 63), (0, .nameAndType 64 25), (0, u "nodeSymbol"), (0, .methodref 7 66), (0, .nameAndType 67 25), (0, u "nodeParent"), (0, .methodref 7 69), (0, .nameAndType 70 25), (0, u "nodeDetail"), (0, .methodref 7 72), (0, .nameAndType 73 25), (0, u "error"), (2, u "law"), (0, u "([I)Z")] 5

def k1m0 : Method := { name := "<init>", desc := "()V", sig := { parameters := [], returnType := none }, accessFlags := 1, code := none }
def k1c1 : Code := { maxStack := 4, maxLocals := 9, code := code, exceptionTable := #[], attributes := #[] }
def k1m1 : Method := { name := "law", desc := "([I)Z", sig := { parameters := [(.array .int)], returnType := some .boolean }, accessFlags := 9, code := some k1c1 }
def k1c2 : Code := { maxStack := 2, maxLocals := 3, code := method_3_code, exceptionTable := #[], attributes := #[] }
def k1m2 : Method := { name := "extra", desc := "(LLl1RecoverGen;IZ)Z", sig := { parameters := [(.object "Ll1RecoverGen"), .int, .boolean], returnType := some .boolean }, accessFlags := 10, code := some k1c2 }
def k1c3 : Code := { maxStack := 4, maxLocals := 5, code := method_4_code, exceptionTable := #[], attributes := #[] }
def k1m3 : Method := { name := "same", desc := "(LLl1RecoverGen;LLl1RecoverGen;)Z", sig := { parameters := [(.object "Ll1RecoverGen"), (.object "Ll1RecoverGen")], returnType := some .boolean }, accessFlags := 10, code := some k1c3 }
/-- Ll1RecoverGenL7 -/
def k1 : Class := { plain "Ll1RecoverGenL7" (some 0) with
  accessFlags := 33
  interfaces := #[]
  cf := some (fileOf pool1 13 #[] #[{ accessFlags := 1, nameIndex := 5, descriptorIndex := 6, attributes := #[] }, { accessFlags := 9, nameIndex := 76, descriptorIndex := 77, attributes := #[] }, { accessFlags := 10, nameIndex := 16, descriptorIndex := 17, attributes := #[] }, { accessFlags := 10, nameIndex := 38, descriptorIndex := 39, attributes := #[] }] 33 2 #[] #[])
  fields := #[]
  methods := #[k1m0, k1m1, k1m2, k1m3]
  instanceTypes := #[]
  staticTypes := #[]
  resolved := Array.replicate 83 none
  statics := none }

def pool2 : Array CpInfo := pool [(1, .methodref 2 3), (0, .class_ 4), (0, .nameAndType 5 6), (0, u "java/lang/Object"), (0, u "<init>"), (0, u "()V"), (0, .fieldref 8 9), (0, .class_ 10), (0, .nameAndType 11 12), (0, u "Ll1RecoverGen"), (0, u "ruleLhs"), (0, u "[I"), (0, .fieldref 8 14), (0, .nameAndType 15 12), (0, u "ruleLen"), (0, .fieldref 8 17), (0, .nameAndType 18 12), (0, u "ruleRhs"), (0, .fieldref 8 20), (0, .nameAndType 21 22), (0, u "nullableNt"), (0, u "[Z"), (0, .fieldref 8 24), (0, .nameAndType 25 12), (0, u "firstNt"), (0, .fieldref 8 27), (0, .nameAndType 28 12), (0, u "followNt"), (0, .fieldref 8 30), (0, .nameAndType 31 12), (0, u "table"), (0, .fieldref 8 33), (0, .nameAndType 34 12), (0, u "conflicts"), (0, .fieldref 8 36), (0, .nameAndType 37 12), (0, u "tokens"), (0, .fieldref 8 39), (0, .nameAndType 40 12), (0, u "nodeSym"), (0, .fieldref 8 42), (0, .nameAndType 43 12), (0, u "nodePar"), (0, .fieldref 8 45), (0, .nameAndType 46 12), (0, u "nodeDet"), (0, .fieldref 8 48), (0, .nameAndType 49 12), (0, u "stack"), (0, .fieldref 8 51), (0, .nameAndType 52 12), (0, u "errors"), (0, .methodref 8 54), (0, .nameAndType 55 56), (0, u "clamp"), (0, u "(III)I"), (0, .fieldref 8 58), (0, .nameAndType 59 60), (0, u "nNt"), (0, u "I"), (0, .fieldref 8 62), (0, .nameAndType 63 60), (0, u "nT"), (0, .fieldref 8 65), (0, .nameAndType 66 60), (0, u "ruleCount"), (0, .fieldref 8 68), (0, .nameAndType 69 60), (0, u "tokenCount"), (0, .fieldref 8 71), (0, .nameAndType 72 60), (0, u "nodeCount"), (0, .fieldref 8 74), (0, .nameAndType 75 60), (0, u "conflictCount"), (0, .fieldref 8 77), (0, .nameAndType 78 60), (0, u "errorCount"), (0, .fieldref 8 80), (0, .nameAndType 81 60), (0, u "sp"), (0, .fieldref 8 83), (0, .nameAndType 84 60), (0, u "pos"), (0, .fieldref 8 86), (0, .nameAndType 87 88), (0, u "built"), (0, u "Z"), (0, .fieldref 8 90), (0, .nameAndType 91 88), (0, u "parsed"), (0, .methodref 8 93), (0, .nameAndType 94 95), (0, u "validSymbol"), (0, u "(I)Z"), (0, .methodref 8 97), (0, .nameAndType 98 99), (0, u "nullablePass"), (0, u "()Z"), (0, .methodref 8 101), (0, .nameAndType 102 99), (0, u "firstPass"), (0, .methodref 8 104), (0, .nameAndType 105 99), (0, u "followPass"), (0, .methodref 8 107), (0, .nameAndType 108 6), (0, u "fillTable"), (0, .methodref 8 110), (0, .nameAndType 111 112), (0, u "seqNullable"), (0, u "(II)Z"), (0, .methodref 8 114), (0, .nameAndType 115 116), (0, u "firstOfSeq"), (0, u "(II)I"), (0, .methodref 8 118), (0, .nameAndType 119 95), (0, u "followRule"), (0, .methodref 8 121), (0, .nameAndType 122 123), (0, u "fillRule"), (0, u "(I)V"), (0, .methodref 8 125), (0, .nameAndType 126 127), (0, u "predict"), (0, u "(I)I"), (0, .methodref 8 129), (0, .nameAndType 130 6), (0, u "skipRest"), (0, .methodref 8 132), (0, .nameAndType 133 134), (0, u "matchTerminal"), (0, u "(II)V"), (0, .methodref 8 136), (0, .nameAndType 137 112), (0, u "expandOrRecover"), (0, .methodref 8 139), (0, .nameAndType 140 141), (0, u "record"), (0, u "(III)V"), (0, .methodref 8 143), (0, .nameAndType 144 145), (0, u "lookahead"), (0, u "()I"), (0, .methodref 8 147), (0, .nameAndType 148 112), (0, u "expand"), (0, .methodref 8 150), (0, .nameAndType 151 123), (0, u "recover"), (0, .methodref 8 153), (0, .nameAndType 154 123), (0, u "push"), (0, .methodref 8 156), (0, .nameAndType 157 127), (0, u "syncSet"), (0, u "NT_BASE"), (2, u "END"), (1, u "MAX_RULES"), (0, u "MAX_RHS"), (1, u "MAX_TOKENS"), (1, u "MAX_NODES"), (1, u "MAX_ERRORS"), (1, u "REFUSED"), (1, u "STATUS_OK"), (0, u "STATUS_RECOVERED"), (1, u "STATUS_OVERFLOW"), (1, u "ERR_MISSING"), (0, u "ERR_SKIP"), (0, u "ERR_ABANDON"), (4, u "beginRule"), (0, u "addSymbol"), (0, u "build"), (0, u "nullable"), (0, u "firstSet"), (0, u "followSet"), (0, u "tableEntry"), (0, u "conflict"), (0, u "token"), (0, u "parse"), (0, u "error"), (0, u "nodeSymbol"), (0, u "nodeParent"), (0, u "nodeDetail")] 2

def k2c0 : Code := { maxStack := 5, maxLocals := 3, code := prog_1_method_1_code, exceptionTable := #[], attributes := #[] }
def k2m0 : Method := { name := "<init>", desc := "(II)V", sig := { parameters := [.int, .int], returnType := none }, accessFlags := 1, code := some k2c0 }
def k2c1 : Code := { maxStack := 2, maxLocals := 4, code := prog_1_method_2_code, exceptionTable := #[], attributes := #[] }
def k2m1 : Method := { name := "clamp", desc := "(III)I", sig := { parameters := [.int, .int, .int], returnType := some .int }, accessFlags := 2, code := some k2c1 }
def k2c2 : Code := { maxStack := 3, maxLocals := 3, code := prog_1_method_3_code, exceptionTable := #[], attributes := #[] }
def k2m2 : Method := { name := "beginRule", desc := "(I)I", sig := { parameters := [.int], returnType := some .int }, accessFlags := 1, code := some k2c2 }
def k2c3 : Code := { maxStack := 4, maxLocals := 3, code := prog_1_method_4_code, exceptionTable := #[], attributes := #[] }
def k2m3 : Method := { name := "addSymbol", desc := "(I)Z", sig := { parameters := [.int], returnType := some .boolean }, accessFlags := 1, code := some k2c3 }
def k2c4 : Code := { maxStack := 3, maxLocals := 2, code := prog_1_method_5_code, exceptionTable := #[], attributes := #[] }
def k2m4 : Method := { name := "validSymbol", desc := "(I)Z", sig := { parameters := [.int], returnType := some .boolean }, accessFlags := 2, code := some k2c4 }
def k2c5 : Code := { maxStack := 3, maxLocals := 2, code := prog_1_method_6_code, exceptionTable := #[], attributes := #[] }
def k2m5 : Method := { name := "build", desc := "()I", sig := { parameters := [], returnType := some .int }, accessFlags := 1, code := some k2c5 }
def k2c6 : Code := { maxStack := 3, maxLocals := 6, code := prog_1_method_7_code, exceptionTable := #[], attributes := #[] }
def k2m6 : Method := { name := "seqNullable", desc := "(II)Z", sig := { parameters := [.int, .int], returnType := some .boolean }, accessFlags := 2, code := some k2c6 }
def k2c7 : Code := { maxStack := 4, maxLocals := 7, code := prog_1_method_8_code, exceptionTable := #[], attributes := #[] }
def k2m7 : Method := { name := "firstOfSeq", desc := "(II)I", sig := { parameters := [.int, .int], returnType := some .int }, accessFlags := 2, code := some k2c7 }
def k2c8 : Code := { maxStack := 3, maxLocals := 4, code := prog_1_method_9_code, exceptionTable := #[], attributes := #[] }
def k2m8 : Method := { name := "nullablePass", desc := "()Z", sig := { parameters := [], returnType := some .boolean }, accessFlags := 2, code := some k2c8 }
def k2c9 : Code := { maxStack := 4, maxLocals := 5, code := prog_1_method_10_code, exceptionTable := #[], attributes := #[] }
def k2m9 : Method := { name := "firstPass", desc := "()Z", sig := { parameters := [], returnType := some .boolean }, accessFlags := 2, code := some k2c9 }
def k2c10 : Code := { maxStack := 2, maxLocals := 3, code := prog_1_method_11_code, exceptionTable := #[], attributes := #[] }
def k2m10 : Method := { name := "followPass", desc := "()Z", sig := { parameters := [], returnType := some .boolean }, accessFlags := 2, code := some k2c10 }
def k2c11 : Code := { maxStack := 4, maxLocals := 9, code := prog_1_method_12_code, exceptionTable := #[], attributes := #[] }
def k2m11 : Method := { name := "followRule", desc := "(I)Z", sig := { parameters := [.int], returnType := some .boolean }, accessFlags := 2, code := some k2c11 }
def k2c12 : Code := { maxStack := 4, maxLocals := 3, code := prog_1_method_13_code, exceptionTable := #[], attributes := #[] }
def k2m12 : Method := { name := "predict", desc := "(I)I", sig := { parameters := [.int], returnType := some .int }, accessFlags := 2, code := some k2c12 }
def k2c13 : Code := { maxStack := 3, maxLocals := 2, code := prog_1_method_14_code, exceptionTable := #[], attributes := #[] }
def k2m13 : Method := { name := "fillTable", desc := "()V", sig := { parameters := [], returnType := none }, accessFlags := 2, code := some k2c13 }
def k2c14 : Code := { maxStack := 5, maxLocals := 7, code := prog_1_method_15_code, exceptionTable := #[], attributes := #[] }
def k2m14 : Method := { name := "fillRule", desc := "(I)V", sig := { parameters := [.int], returnType := none }, accessFlags := 2, code := some k2c14 }
def k2c15 : Code := { maxStack := 2, maxLocals := 2, code := prog_1_method_16_code, exceptionTable := #[], attributes := #[] }
def k2m15 : Method := { name := "nullable", desc := "(I)Z", sig := { parameters := [.int], returnType := some .boolean }, accessFlags := 1, code := some k2c15 }
def k2c16 : Code := { maxStack := 2, maxLocals := 2, code := prog_1_method_17_code, exceptionTable := #[], attributes := #[] }
def k2m16 : Method := { name := "firstSet", desc := "(I)I", sig := { parameters := [.int], returnType := some .int }, accessFlags := 1, code := some k2c16 }
def k2c17 : Code := { maxStack := 2, maxLocals := 2, code := prog_1_method_18_code, exceptionTable := #[], attributes := #[] }
def k2m17 : Method := { name := "followSet", desc := "(I)I", sig := { parameters := [.int], returnType := some .int }, accessFlags := 1, code := some k2c17 }
def k2c18 : Code := { maxStack := 3, maxLocals := 3, code := prog_1_method_19_code, exceptionTable := #[], attributes := #[] }
def k2m18 : Method := { name := "tableEntry", desc := "(II)I", sig := { parameters := [.int, .int], returnType := some .int }, accessFlags := 1, code := some k2c18 }
def k2c19 : Code := { maxStack := 2, maxLocals := 2, code := prog_1_method_20_code, exceptionTable := #[], attributes := #[] }
def k2m19 : Method := { name := "conflict", desc := "(I)I", sig := { parameters := [.int], returnType := some .int }, accessFlags := 1, code := some k2c19 }
def k2c20 : Code := { maxStack := 3, maxLocals := 2, code := prog_1_method_21_code, exceptionTable := #[], attributes := #[] }
def k2m20 : Method := { name := "token", desc := "(I)Z", sig := { parameters := [.int], returnType := some .boolean }, accessFlags := 1, code := some k2c20 }
def k2c21 : Code := { maxStack := 4, maxLocals := 4, code := prog_1_method_22_code, exceptionTable := #[], attributes := #[] }
def k2m21 : Method := { name := "parse", desc := "()I", sig := { parameters := [], returnType := some .int }, accessFlags := 1, code := some k2c21 }
def k2c22 : Code := { maxStack := 2, maxLocals := 1, code := prog_1_method_23_code, exceptionTable := #[], attributes := #[] }
def k2m22 : Method := { name := "lookahead", desc := "()I", sig := { parameters := [], returnType := some .int }, accessFlags := 2, code := some k2c22 }
def k2c23 : Code := { maxStack := 5, maxLocals := 4, code := prog_1_method_24_code, exceptionTable := #[], attributes := #[] }
def k2m23 : Method := { name := "record", desc := "(III)V", sig := { parameters := [.int, .int, .int], returnType := none }, accessFlags := 2, code := some k2c23 }
def k2c24 : Code := { maxStack := 5, maxLocals := 2, code := prog_1_method_25_code, exceptionTable := #[], attributes := #[] }
def k2m24 : Method := { name := "skipRest", desc := "()V", sig := { parameters := [], returnType := none }, accessFlags := 2, code := some k2c24 }
def k2c25 : Code := { maxStack := 4, maxLocals := 4, code := prog_1_method_26_code, exceptionTable := #[], attributes := #[] }
def k2m25 : Method := { name := "matchTerminal", desc := "(II)V", sig := { parameters := [.int, .int], returnType := none }, accessFlags := 2, code := some k2c25 }
def k2c26 : Code := { maxStack := 3, maxLocals := 5, code := prog_1_method_27_code, exceptionTable := #[], attributes := #[] }
def k2m26 : Method := { name := "expandOrRecover", desc := "(II)Z", sig := { parameters := [.int, .int], returnType := some .boolean }, accessFlags := 2, code := some k2c26 }
def k2c27 : Code := { maxStack := 5, maxLocals := 7, code := prog_1_method_28_code, exceptionTable := #[], attributes := #[] }
def k2m27 : Method := { name := "expand", desc := "(II)Z", sig := { parameters := [.int, .int], returnType := some .boolean }, accessFlags := 2, code := some k2c27 }
def k2c28 : Code := { maxStack := 3, maxLocals := 2, code := prog_1_method_29_code, exceptionTable := #[], attributes := #[] }
def k2m28 : Method := { name := "push", desc := "(I)V", sig := { parameters := [.int], returnType := none }, accessFlags := 2, code := some k2c28 }
def k2c29 : Code := { maxStack := 4, maxLocals := 5, code := prog_1_method_30_code, exceptionTable := #[], attributes := #[] }
def k2m29 : Method := { name := "syncSet", desc := "(I)I", sig := { parameters := [.int], returnType := some .int }, accessFlags := 2, code := some k2c29 }
def k2c30 : Code := { maxStack := 5, maxLocals := 5, code := prog_1_method_31_code, exceptionTable := #[], attributes := #[] }
def k2m30 : Method := { name := "recover", desc := "(I)V", sig := { parameters := [.int], returnType := none }, accessFlags := 2, code := some k2c30 }
def k2c31 : Code := { maxStack := 1, maxLocals := 1, code := prog_1_method_32_code, exceptionTable := #[], attributes := #[] }
def k2m31 : Method := { name := "errorCount", desc := "()I", sig := { parameters := [], returnType := some .int }, accessFlags := 1, code := some k2c31 }
def k2c32 : Code := { maxStack := 2, maxLocals := 3, code := prog_1_method_33_code, exceptionTable := #[], attributes := #[] }
def k2m32 : Method := { name := "error", desc := "(I)I", sig := { parameters := [.int], returnType := some .int }, accessFlags := 1, code := some k2c32 }
def k2c33 : Code := { maxStack := 1, maxLocals := 1, code := prog_1_method_34_code, exceptionTable := #[], attributes := #[] }
def k2m33 : Method := { name := "nodeCount", desc := "()I", sig := { parameters := [], returnType := some .int }, accessFlags := 1, code := some k2c33 }
def k2c34 : Code := { maxStack := 2, maxLocals := 2, code := prog_1_method_35_code, exceptionTable := #[], attributes := #[] }
def k2m34 : Method := { name := "nodeSymbol", desc := "(I)I", sig := { parameters := [.int], returnType := some .int }, accessFlags := 1, code := some k2c34 }
def k2c35 : Code := { maxStack := 2, maxLocals := 2, code := prog_1_method_36_code, exceptionTable := #[], attributes := #[] }
def k2m35 : Method := { name := "nodeParent", desc := "(I)I", sig := { parameters := [.int], returnType := some .int }, accessFlags := 1, code := some k2c35 }
def k2c36 : Code := { maxStack := 2, maxLocals := 2, code := prog_1_method_37_code, exceptionTable := #[], attributes := #[] }
def k2m36 : Method := { name := "nodeDetail", desc := "(I)I", sig := { parameters := [.int], returnType := some .int }, accessFlags := 1, code := some k2c36 }
/-- Ll1RecoverGen -/
def k2 : Class := { plain "Ll1RecoverGen" (some 0) with
  accessFlags := 49
  interfaces := #[]
  cf := some (fileOf pool2 8 #[] #[{ accessFlags := 1, nameIndex := 5, descriptorIndex := 134, attributes := #[] }, { accessFlags := 2, nameIndex := 55, descriptorIndex := 56, attributes := #[] }, { accessFlags := 1, nameIndex := 186, descriptorIndex := 127, attributes := #[] }, { accessFlags := 1, nameIndex := 187, descriptorIndex := 95, attributes := #[] }, { accessFlags := 2, nameIndex := 94, descriptorIndex := 95, attributes := #[] }, { accessFlags := 1, nameIndex := 188, descriptorIndex := 145, attributes := #[] }, { accessFlags := 2, nameIndex := 111, descriptorIndex := 112, attributes := #[] }, { accessFlags := 2, nameIndex := 115, descriptorIndex := 116, attributes := #[] }, { accessFlags := 2, nameIndex := 98, descriptorIndex := 99, attributes := #[] }, { accessFlags := 2, nameIndex := 102, descriptorIndex := 99, attributes := #[] }, { accessFlags := 2, nameIndex := 105, descriptorIndex := 99, attributes := #[] }, { accessFlags := 2, nameIndex := 119, descriptorIndex := 95, attributes := #[] }, { accessFlags := 2, nameIndex := 126, descriptorIndex := 127, attributes := #[] }, { accessFlags := 2, nameIndex := 108, descriptorIndex := 6, attributes := #[] }, { accessFlags := 2, nameIndex := 122, descriptorIndex := 123, attributes := #[] }, { accessFlags := 1, nameIndex := 189, descriptorIndex := 95, attributes := #[] }, { accessFlags := 1, nameIndex := 190, descriptorIndex := 127, attributes := #[] }, { accessFlags := 1, nameIndex := 191, descriptorIndex := 127, attributes := #[] }, { accessFlags := 1, nameIndex := 192, descriptorIndex := 116, attributes := #[] }, { accessFlags := 1, nameIndex := 193, descriptorIndex := 127, attributes := #[] }, { accessFlags := 1, nameIndex := 194, descriptorIndex := 95, attributes := #[] }, { accessFlags := 1, nameIndex := 195, descriptorIndex := 145, attributes := #[] }, { accessFlags := 2, nameIndex := 144, descriptorIndex := 145, attributes := #[] }, { accessFlags := 2, nameIndex := 140, descriptorIndex := 141, attributes := #[] }, { accessFlags := 2, nameIndex := 130, descriptorIndex := 6, attributes := #[] }, { accessFlags := 2, nameIndex := 133, descriptorIndex := 134, attributes := #[] }, { accessFlags := 2, nameIndex := 137, descriptorIndex := 112, attributes := #[] }, { accessFlags := 2, nameIndex := 148, descriptorIndex := 112, attributes := #[] }, { accessFlags := 2, nameIndex := 154, descriptorIndex := 123, attributes := #[] }, { accessFlags := 2, nameIndex := 157, descriptorIndex := 127, attributes := #[] }, { accessFlags := 2, nameIndex := 151, descriptorIndex := 123, attributes := #[] }, { accessFlags := 1, nameIndex := 78, descriptorIndex := 145, attributes := #[] }, { accessFlags := 1, nameIndex := 196, descriptorIndex := 127, attributes := #[] }, { accessFlags := 1, nameIndex := 72, descriptorIndex := 145, attributes := #[] }, { accessFlags := 1, nameIndex := 197, descriptorIndex := 127, attributes := #[] }, { accessFlags := 1, nameIndex := 198, descriptorIndex := 127, attributes := #[] }, { accessFlags := 1, nameIndex := 199, descriptorIndex := 127, attributes := #[] }] 49 2 #[] #[{ accessFlags := 25, nameIndex := 158, descriptorIndex := 60, attributes := #[] }, { accessFlags := 25, nameIndex := 161, descriptorIndex := 60, attributes := #[] }, { accessFlags := 25, nameIndex := 163, descriptorIndex := 60, attributes := #[] }, { accessFlags := 25, nameIndex := 164, descriptorIndex := 60, attributes := #[] }, { accessFlags := 25, nameIndex := 166, descriptorIndex := 60, attributes := #[] }, { accessFlags := 25, nameIndex := 168, descriptorIndex := 60, attributes := #[] }, { accessFlags := 25, nameIndex := 170, descriptorIndex := 60, attributes := #[] }, { accessFlags := 25, nameIndex := 172, descriptorIndex := 60, attributes := #[] }, { accessFlags := 25, nameIndex := 174, descriptorIndex := 60, attributes := #[] }, { accessFlags := 25, nameIndex := 175, descriptorIndex := 60, attributes := #[] }, { accessFlags := 25, nameIndex := 177, descriptorIndex := 60, attributes := #[] }, { accessFlags := 25, nameIndex := 179, descriptorIndex := 60, attributes := #[] }, { accessFlags := 25, nameIndex := 180, descriptorIndex := 60, attributes := #[] }, { accessFlags := 25, nameIndex := 181, descriptorIndex := 60, attributes := #[] }, { accessFlags := 2, nameIndex := 59, descriptorIndex := 60, attributes := #[] }, { accessFlags := 2, nameIndex := 63, descriptorIndex := 60, attributes := #[] }, { accessFlags := 2, nameIndex := 66, descriptorIndex := 60, attributes := #[] }, { accessFlags := 2, nameIndex := 69, descriptorIndex := 60, attributes := #[] }, { accessFlags := 2, nameIndex := 72, descriptorIndex := 60, attributes := #[] }, { accessFlags := 2, nameIndex := 75, descriptorIndex := 60, attributes := #[] }, { accessFlags := 2, nameIndex := 78, descriptorIndex := 60, attributes := #[] }, { accessFlags := 2, nameIndex := 81, descriptorIndex := 60, attributes := #[] }, { accessFlags := 2, nameIndex := 84, descriptorIndex := 60, attributes := #[] }, { accessFlags := 2, nameIndex := 87, descriptorIndex := 88, attributes := #[] }, { accessFlags := 2, nameIndex := 91, descriptorIndex := 88, attributes := #[] }, { accessFlags := 2, nameIndex := 11, descriptorIndex := 12, attributes := #[] }, { accessFlags := 2, nameIndex := 15, descriptorIndex := 12, attributes := #[] }, { accessFlags := 2, nameIndex := 18, descriptorIndex := 12, attributes := #[] }, { accessFlags := 2, nameIndex := 21, descriptorIndex := 22, attributes := #[] }, { accessFlags := 2, nameIndex := 25, descriptorIndex := 12, attributes := #[] }, { accessFlags := 2, nameIndex := 28, descriptorIndex := 12, attributes := #[] }, { accessFlags := 2, nameIndex := 31, descriptorIndex := 12, attributes := #[] }, { accessFlags := 2, nameIndex := 34, descriptorIndex := 12, attributes := #[] }, { accessFlags := 2, nameIndex := 37, descriptorIndex := 12, attributes := #[] }, { accessFlags := 2, nameIndex := 40, descriptorIndex := 12, attributes := #[] }, { accessFlags := 2, nameIndex := 43, descriptorIndex := 12, attributes := #[] }, { accessFlags := 2, nameIndex := 46, descriptorIndex := 12, attributes := #[] }, { accessFlags := 2, nameIndex := 49, descriptorIndex := 12, attributes := #[] }, { accessFlags := 2, nameIndex := 52, descriptorIndex := 12, attributes := #[] }])
  fields := #[{ name := "NT_BASE", type := .int, accessFlags := 25, slot := 0, constantValue := 0 }, { name := "END", type := .int, accessFlags := 25, slot := 1, constantValue := 0 }, { name := "MAX_RULES", type := .int, accessFlags := 25, slot := 2, constantValue := 0 }, { name := "MAX_RHS", type := .int, accessFlags := 25, slot := 3, constantValue := 0 }, { name := "MAX_TOKENS", type := .int, accessFlags := 25, slot := 4, constantValue := 0 }, { name := "MAX_NODES", type := .int, accessFlags := 25, slot := 5, constantValue := 0 }, { name := "MAX_ERRORS", type := .int, accessFlags := 25, slot := 6, constantValue := 0 }, { name := "REFUSED", type := .int, accessFlags := 25, slot := 7, constantValue := 0 }, { name := "STATUS_OK", type := .int, accessFlags := 25, slot := 8, constantValue := 0 }, { name := "STATUS_RECOVERED", type := .int, accessFlags := 25, slot := 9, constantValue := 0 }, { name := "STATUS_OVERFLOW", type := .int, accessFlags := 25, slot := 10, constantValue := 0 }, { name := "ERR_MISSING", type := .int, accessFlags := 25, slot := 11, constantValue := 0 }, { name := "ERR_SKIP", type := .int, accessFlags := 25, slot := 12, constantValue := 0 }, { name := "ERR_ABANDON", type := .int, accessFlags := 25, slot := 13, constantValue := 0 }, { name := "nNt", type := .int, accessFlags := 2, slot := 0, constantValue := 0 }, { name := "nT", type := .int, accessFlags := 2, slot := 1, constantValue := 0 }, { name := "ruleCount", type := .int, accessFlags := 2, slot := 2, constantValue := 0 }, { name := "tokenCount", type := .int, accessFlags := 2, slot := 3, constantValue := 0 }, { name := "nodeCount", type := .int, accessFlags := 2, slot := 4, constantValue := 0 }, { name := "conflictCount", type := .int, accessFlags := 2, slot := 5, constantValue := 0 }, { name := "errorCount", type := .int, accessFlags := 2, slot := 6, constantValue := 0 }, { name := "sp", type := .int, accessFlags := 2, slot := 7, constantValue := 0 }, { name := "pos", type := .int, accessFlags := 2, slot := 8, constantValue := 0 }, { name := "built", type := .boolean, accessFlags := 2, slot := 9, constantValue := 0 }, { name := "parsed", type := .boolean, accessFlags := 2, slot := 10, constantValue := 0 }, { name := "ruleLhs", type := (.array .int), accessFlags := 2, slot := 11, constantValue := 0 }, { name := "ruleLen", type := (.array .int), accessFlags := 2, slot := 12, constantValue := 0 }, { name := "ruleRhs", type := (.array .int), accessFlags := 2, slot := 13, constantValue := 0 }, { name := "nullableNt", type := (.array .boolean), accessFlags := 2, slot := 14, constantValue := 0 }, { name := "firstNt", type := (.array .int), accessFlags := 2, slot := 15, constantValue := 0 }, { name := "followNt", type := (.array .int), accessFlags := 2, slot := 16, constantValue := 0 }, { name := "table", type := (.array .int), accessFlags := 2, slot := 17, constantValue := 0 }, { name := "conflicts", type := (.array .int), accessFlags := 2, slot := 18, constantValue := 0 }, { name := "tokens", type := (.array .int), accessFlags := 2, slot := 19, constantValue := 0 }, { name := "nodeSym", type := (.array .int), accessFlags := 2, slot := 20, constantValue := 0 }, { name := "nodePar", type := (.array .int), accessFlags := 2, slot := 21, constantValue := 0 }, { name := "nodeDet", type := (.array .int), accessFlags := 2, slot := 22, constantValue := 0 }, { name := "stack", type := (.array .int), accessFlags := 2, slot := 23, constantValue := 0 }, { name := "errors", type := (.array .int), accessFlags := 2, slot := 24, constantValue := 0 }]
  methods := #[k2m0, k2m1, k2m2, k2m3, k2m4, k2m5, k2m6, k2m7, k2m8, k2m9, k2m10, k2m11, k2m12, k2m13, k2m14, k2m15, k2m16, k2m17, k2m18, k2m19, k2m20, k2m21, k2m22, k2m23, k2m24, k2m25, k2m26, k2m27, k2m28, k2m29, k2m30, k2m31, k2m32, k2m33, k2m34, k2m35, k2m36]
  instanceTypes := #[.int, .int, .int, .int, .int, .int, .int, .int, .int, .boolean, .boolean, (.array .int), (.array .int), (.array .int), (.array .boolean), (.array .int), (.array .int), (.array .int), (.array .int), (.array .int), (.array .int), (.array .int), (.array .int), (.array .int), (.array .int)]
  staticTypes := #[.int, .int, .int, .int, .int, .int, .int, .int, .int, .int, .int, .int, .int, .int]
  resolved := Array.replicate 202 none
  statics := none }

def pool3 : Array CpInfo := pool [(1, u "java/lang/Cloneable"), (0, .class_ 1), (0, u "java/lang/Object"), (0, .class_ 3)] 3

/-- java/lang/Cloneable -/
def k3 : Class := { plain "java/lang/Cloneable" (some 0) with
  accessFlags := 1537
  interfaces := #[]
  cf := some (fileOf pool3 2 #[] #[] 1537 4 #[] #[])
  fields := #[]
  methods := #[]
  instanceTypes := #[]
  staticTypes := #[]
  resolved := Array.replicate 8 none
  statics := none }

def pool4 : Array CpInfo := pool [(1, u "java/io/Serializable"), (0, .class_ 1), (0, u "java/lang/Object"), (0, .class_ 3)] 3

/-- java/io/Serializable -/
def k4 : Class := { plain "java/io/Serializable" (some 0) with
  accessFlags := 1537
  interfaces := #[]
  cf := some (fileOf pool4 2 #[] #[] 1537 4 #[] #[])
  fields := #[]
  methods := #[]
  instanceTypes := #[]
  staticTypes := #[]
  resolved := Array.replicate 8 none
  statics := none }

/-- the primitive boolean -/
def k5 : Class := { plain "boolean" none with kind := .primitive 'Z', accessFlags := 0x411 }
/-- [Z -/
def k6 : Class := { plain "[Z" (some 0) with kind := .array 5 .boolean, interfaces := #[3, 4], accessFlags := 1041 }

/-- the primitive byte -/
def k7 : Class := { plain "byte" none with kind := .primitive 'B', accessFlags := 0x411 }
/-- [B -/
def k8 : Class := { plain "[B" (some 0) with kind := .array 7 .byte, interfaces := #[3, 4], accessFlags := 1041 }

/-- the primitive int -/
def k9 : Class := { plain "int" none with kind := .primitive 'I', accessFlags := 0x411 }
/-- [I -/
def k10 : Class := { plain "[I" (some 0) with kind := .array 9 .int, interfaces := #[3, 4], accessFlags := 1041 }

def heap : Heap := #[{ cls := 10, slots := #[.int 1, .int 2, .int 3], vm := .none }]
def classes : Array Class := #[k0, k1, k2, k3, k4, k5, k6, k7, k8, k9, k10]
def interned : List (Array UInt16 × Addr) := []
def slotsUsed : Nat := 3
def theMethod : MethodId := ⟨1, 1⟩
def args0 : Array Value := #[.ref 0]
def aboutOver (below : List Frame) : State where
  vm := { classes := classes, interned := interned.toArray }
  heap := heap
  slotsUsed := slotsUsed
  threads := #[{ frames := .invoking theMethod args0 :: below }]
def below0 : List Frame := [.native { method := ⟨0, 0⟩, args := #[] }]
def about1 : State := aboutOver below0
def p0 : Program := .bare "" "" ""
def e0 : Env := launch0.env 0 0 0
theorem w_frames : about1.frames = Frame.invoking theMethod args0 :: below0 := rfl
set_option maxRecDepth 65536 in
theorem w_args : argsFit about1.vm theMethod args0 = true := by decide +kernel
set_option maxRecDepth 65536 in
theorem w_heap : heapFits about1 = true := by decide +kernel
set_option maxRecDepth 65536 in
theorem w_runnable : about1.curStatus? = some .runnable := by decide +kernel
set_option maxRecDepth 65536 in
theorem w_alone : about1.alone = true := by decide +kernel
set_option maxRecDepth 65536 in
theorem w_named : about1.methodNamed? x = some theMethod := by decide +kernel
set_option maxRecDepth 65536 in
theorem w_hears : about1.hears theMethod below0 = true := by decide +kernel
set_option maxRecDepth 65536 in
theorem w_ripe : about1.ripe theMethod args0 below0 = true := by decide +kernel
theorem w_running : about1.status = .running := rfl
set_option maxRecDepth 65536 in
theorem w_room : about1.hasRoom e0.platform room_1 = true :=
  launch0.hasRoom_least _ room_1 (by decide +kernel) (by decide +kernel) (by decide +kernel) (by decide +kernel) (by decide +kernel) (by decide +kernel)
theorem allAtoms_all (ts : List Jvm.Cond) (a : Array Jvm.Value) (st : Jvm.State) : (allAtoms ts).before a st = ts.all (fun c => c.before a st) := by
  induction ts with
  | nil => rfl
  | cons c t ih =>
    show (Jvm.Cond.and c (allAtoms t)).before a st = _
    rw [Jvm.Cond.before_and, ih, List.all_cons]
def words1 : List Jvm.Cond := Jvm.Cond.code x code maxLocals ret :: tables_1
/-- a 'code' word, met by the world's own term for the bytes: nothing is compared byte by byte -/
theorem code_word {y : MethodName} {bytes : ByteArray} {mx : Nat} {rt : Option FieldType} {a : Array Value} {s : State} {m : MethodId} {meth : Method} {c : Code} (h1 : s.methodNamed? y = some m) (h2 : s.vm.method? m = some meth) (h3 : meth.code = some c) (h4 : c.code = bytes)
    (h5 : (c.maxLocals == mx && c.exceptionTable.isEmpty && decide (c.maxStack ≤ mostOperands) && decide (meth.sig.returnType = rt) && !meth.locks && decide (parseMethodDescriptor y.desc = some meth.sig)) = true) : (Jvm.Cond.code y bytes mx rt).before a s = true := by
  simp only [Bool.and_eq_true, beq_iff_eq, Bool.not_eq_true', decide_eq_true_eq] at h5
  obtain ⟨⟨⟨⟨⟨g1, g2⟩, g3⟩, g4⟩, g5⟩, g6⟩ := h5
  simp [Cond.before, Cond.holds, Cond.value, h1, h2, h3, h4, g1, g2, g3, g4, g5, g6]
def isCode : Jvm.Cond → Bool
  | .code _ _ _ _ => true
  | _ => false
theorem all_split {L : List Jvm.Cond} {P : Jvm.Cond → Bool} (h1 : L.all (fun c => isCode c || P c) = true) (h2 : ∀ c ∈ L.filter isCode, P c = true) : L.all P = true := by
  refine List.all_eq_true.mpr fun c hc => ?_
  have h := List.all_eq_true.mp h1 c hc
  rcases Bool.eq_false_or_eq_true (isCode c) with hi | hi
  · exact h2 c (List.mem_filter.mpr ⟨hc, hi⟩)
  · simpa [hi] using h
set_option maxRecDepth 65536 in
theorem w_c0 : (Jvm.Cond.code x code maxLocals ret).before args0 about1 = true := code_word (m := ⟨1, 1⟩) (meth := k1m1) (c := k1c1) (by decide +kernel) rfl rfl rfl (by decide +kernel)
set_option maxRecDepth 65536 in
theorem w_c1 : (Jvm.Cond.code ({ cls := "Ll1RecoverGen", name := "<init>", desc := "(II)V" } : Jvm.MethodName) prog_1_method_1_code (3 : Nat) (Option.none : Option Jvm.ClassFile.FieldType)).before args0 about1 = true := code_word (m := ⟨2, 0⟩) (meth := k2m0) (c := k2c0) (by decide +kernel) rfl rfl rfl (by decide +kernel)
set_option maxRecDepth 65536 in
theorem w_c2 : (Jvm.Cond.code ({ cls := "java/lang/Object", name := "<init>", desc := "()V" } : Jvm.MethodName) object_method_1_code (1 : Nat) (Option.none : Option Jvm.ClassFile.FieldType)).before args0 about1 = true := code_word (m := ⟨0, 0⟩) (meth := k0m0) (c := k0c0) (by decide +kernel) rfl rfl rfl (by decide +kernel)
set_option maxRecDepth 65536 in
theorem w_c3 : (Jvm.Cond.code ({ cls := "Ll1RecoverGen", name := "clamp", desc := "(III)I" } : Jvm.MethodName) prog_1_method_2_code (4 : Nat) (Option.some Jvm.ClassFile.FieldType.int)).before args0 about1 = true := code_word (m := ⟨2, 1⟩) (meth := k2m1) (c := k2c1) (by decide +kernel) rfl rfl rfl (by decide +kernel)
set_option maxRecDepth 65536 in
theorem w_c4 : (Jvm.Cond.code ({ cls := "Ll1RecoverGenL7", name := "extra", desc := "(LLl1RecoverGen;IZ)Z" } : Jvm.MethodName) method_3_code (3 : Nat) (Option.some Jvm.ClassFile.FieldType.boolean)).before args0 about1 = true := code_word (m := ⟨1, 2⟩) (meth := k1m2) (c := k1c2) (by decide +kernel) rfl rfl rfl (by decide +kernel)
set_option maxRecDepth 65536 in
theorem w_c5 : (Jvm.Cond.code ({ cls := "Ll1RecoverGen", name := "beginRule", desc := "(I)I" } : Jvm.MethodName) prog_1_method_3_code (3 : Nat) (Option.some Jvm.ClassFile.FieldType.int)).before args0 about1 = true := code_word (m := ⟨2, 2⟩) (meth := k2m2) (c := k2c2) (by decide +kernel) rfl rfl rfl (by decide +kernel)
set_option maxRecDepth 65536 in
theorem w_c6 : (Jvm.Cond.code ({ cls := "Ll1RecoverGen", name := "addSymbol", desc := "(I)Z" } : Jvm.MethodName) prog_1_method_4_code (3 : Nat) (Option.some Jvm.ClassFile.FieldType.boolean)).before args0 about1 = true := code_word (m := ⟨2, 3⟩) (meth := k2m3) (c := k2c3) (by decide +kernel) rfl rfl rfl (by decide +kernel)
set_option maxRecDepth 65536 in
theorem w_c7 : (Jvm.Cond.code ({ cls := "Ll1RecoverGen", name := "validSymbol", desc := "(I)Z" } : Jvm.MethodName) prog_1_method_5_code (2 : Nat) (Option.some Jvm.ClassFile.FieldType.boolean)).before args0 about1 = true := code_word (m := ⟨2, 4⟩) (meth := k2m4) (c := k2c4) (by decide +kernel) rfl rfl rfl (by decide +kernel)
set_option maxRecDepth 65536 in
theorem w_c8 : (Jvm.Cond.code ({ cls := "Ll1RecoverGen", name := "build", desc := "()I" } : Jvm.MethodName) prog_1_method_6_code (2 : Nat) (Option.some Jvm.ClassFile.FieldType.int)).before args0 about1 = true := code_word (m := ⟨2, 5⟩) (meth := k2m5) (c := k2c5) (by decide +kernel) rfl rfl rfl (by decide +kernel)
set_option maxRecDepth 65536 in
theorem w_c9 : (Jvm.Cond.code ({ cls := "Ll1RecoverGen", name := "nullablePass", desc := "()Z" } : Jvm.MethodName) prog_1_method_9_code (4 : Nat) (Option.some Jvm.ClassFile.FieldType.boolean)).before args0 about1 = true := code_word (m := ⟨2, 8⟩) (meth := k2m8) (c := k2c8) (by decide +kernel) rfl rfl rfl (by decide +kernel)
set_option maxRecDepth 65536 in
theorem w_c10 : (Jvm.Cond.code ({ cls := "Ll1RecoverGen", name := "seqNullable", desc := "(II)Z" } : Jvm.MethodName) prog_1_method_7_code (6 : Nat) (Option.some Jvm.ClassFile.FieldType.boolean)).before args0 about1 = true := code_word (m := ⟨2, 6⟩) (meth := k2m6) (c := k2c6) (by decide +kernel) rfl rfl rfl (by decide +kernel)
set_option maxRecDepth 65536 in
theorem w_c11 : (Jvm.Cond.code ({ cls := "Ll1RecoverGen", name := "firstPass", desc := "()Z" } : Jvm.MethodName) prog_1_method_10_code (5 : Nat) (Option.some Jvm.ClassFile.FieldType.boolean)).before args0 about1 = true := code_word (m := ⟨2, 9⟩) (meth := k2m9) (c := k2c9) (by decide +kernel) rfl rfl rfl (by decide +kernel)
set_option maxRecDepth 65536 in
theorem w_c12 : (Jvm.Cond.code ({ cls := "Ll1RecoverGen", name := "firstOfSeq", desc := "(II)I" } : Jvm.MethodName) prog_1_method_8_code (7 : Nat) (Option.some Jvm.ClassFile.FieldType.int)).before args0 about1 = true := code_word (m := ⟨2, 7⟩) (meth := k2m7) (c := k2c7) (by decide +kernel) rfl rfl rfl (by decide +kernel)
set_option maxRecDepth 65536 in
theorem w_c13 : (Jvm.Cond.code ({ cls := "Ll1RecoverGen", name := "followPass", desc := "()Z" } : Jvm.MethodName) prog_1_method_11_code (3 : Nat) (Option.some Jvm.ClassFile.FieldType.boolean)).before args0 about1 = true := code_word (m := ⟨2, 10⟩) (meth := k2m10) (c := k2c10) (by decide +kernel) rfl rfl rfl (by decide +kernel)
set_option maxRecDepth 65536 in
theorem w_c14 : (Jvm.Cond.code ({ cls := "Ll1RecoverGen", name := "followRule", desc := "(I)Z" } : Jvm.MethodName) prog_1_method_12_code (9 : Nat) (Option.some Jvm.ClassFile.FieldType.boolean)).before args0 about1 = true := code_word (m := ⟨2, 11⟩) (meth := k2m11) (c := k2c11) (by decide +kernel) rfl rfl rfl (by decide +kernel)
set_option maxRecDepth 65536 in
theorem w_c15 : (Jvm.Cond.code ({ cls := "Ll1RecoverGen", name := "fillTable", desc := "()V" } : Jvm.MethodName) prog_1_method_14_code (2 : Nat) (Option.none : Option Jvm.ClassFile.FieldType)).before args0 about1 = true := code_word (m := ⟨2, 13⟩) (meth := k2m13) (c := k2c13) (by decide +kernel) rfl rfl rfl (by decide +kernel)
set_option maxRecDepth 65536 in
theorem w_c16 : (Jvm.Cond.code ({ cls := "Ll1RecoverGen", name := "fillRule", desc := "(I)V" } : Jvm.MethodName) prog_1_method_15_code (7 : Nat) (Option.none : Option Jvm.ClassFile.FieldType)).before args0 about1 = true := code_word (m := ⟨2, 14⟩) (meth := k2m14) (c := k2c14) (by decide +kernel) rfl rfl rfl (by decide +kernel)
set_option maxRecDepth 65536 in
theorem w_c17 : (Jvm.Cond.code ({ cls := "Ll1RecoverGen", name := "predict", desc := "(I)I" } : Jvm.MethodName) prog_1_method_13_code (3 : Nat) (Option.some Jvm.ClassFile.FieldType.int)).before args0 about1 = true := code_word (m := ⟨2, 12⟩) (meth := k2m12) (c := k2c12) (by decide +kernel) rfl rfl rfl (by decide +kernel)
set_option maxRecDepth 65536 in
theorem w_c18 : (Jvm.Cond.code ({ cls := "Ll1RecoverGen", name := "parse", desc := "()I" } : Jvm.MethodName) prog_1_method_22_code (4 : Nat) (Option.some Jvm.ClassFile.FieldType.int)).before args0 about1 = true := code_word (m := ⟨2, 21⟩) (meth := k2m21) (c := k2c21) (by decide +kernel) rfl rfl rfl (by decide +kernel)
set_option maxRecDepth 65536 in
theorem w_c19 : (Jvm.Cond.code ({ cls := "Ll1RecoverGen", name := "expandOrRecover", desc := "(II)Z" } : Jvm.MethodName) prog_1_method_27_code (5 : Nat) (Option.some Jvm.ClassFile.FieldType.boolean)).before args0 about1 = true := code_word (m := ⟨2, 26⟩) (meth := k2m26) (c := k2c26) (by decide +kernel) rfl rfl rfl (by decide +kernel)
set_option maxRecDepth 65536 in
theorem w_c20 : (Jvm.Cond.code ({ cls := "Ll1RecoverGen", name := "lookahead", desc := "()I" } : Jvm.MethodName) prog_1_method_23_code (1 : Nat) (Option.some Jvm.ClassFile.FieldType.int)).before args0 about1 = true := code_word (m := ⟨2, 22⟩) (meth := k2m22) (c := k2c22) (by decide +kernel) rfl rfl rfl (by decide +kernel)
set_option maxRecDepth 65536 in
theorem w_c21 : (Jvm.Cond.code ({ cls := "Ll1RecoverGen", name := "expand", desc := "(II)Z" } : Jvm.MethodName) prog_1_method_28_code (7 : Nat) (Option.some Jvm.ClassFile.FieldType.boolean)).before args0 about1 = true := code_word (m := ⟨2, 27⟩) (meth := k2m27) (c := k2c27) (by decide +kernel) rfl rfl rfl (by decide +kernel)
set_option maxRecDepth 65536 in
theorem w_c22 : (Jvm.Cond.code ({ cls := "Ll1RecoverGen", name := "skipRest", desc := "()V" } : Jvm.MethodName) prog_1_method_25_code (2 : Nat) (Option.none : Option Jvm.ClassFile.FieldType)).before args0 about1 = true := code_word (m := ⟨2, 24⟩) (meth := k2m24) (c := k2c24) (by decide +kernel) rfl rfl rfl (by decide +kernel)
set_option maxRecDepth 65536 in
theorem w_c23 : (Jvm.Cond.code ({ cls := "Ll1RecoverGen", name := "token", desc := "(I)Z" } : Jvm.MethodName) prog_1_method_21_code (2 : Nat) (Option.some Jvm.ClassFile.FieldType.boolean)).before args0 about1 = true := code_word (m := ⟨2, 20⟩) (meth := k2m20) (c := k2c20) (by decide +kernel) rfl rfl rfl (by decide +kernel)
set_option maxRecDepth 65536 in
theorem w_c24 : (Jvm.Cond.code ({ cls := "Ll1RecoverGenL7", name := "same", desc := "(LLl1RecoverGen;LLl1RecoverGen;)Z" } : Jvm.MethodName) method_4_code (5 : Nat) (Option.some Jvm.ClassFile.FieldType.boolean)).before args0 about1 = true := code_word (m := ⟨1, 3⟩) (meth := k1m3) (c := k1c3) (by decide +kernel) rfl rfl rfl (by decide +kernel)
set_option maxRecDepth 65536 in
theorem w_c25 : (Jvm.Cond.code ({ cls := "Ll1RecoverGen", name := "tableEntry", desc := "(II)I" } : Jvm.MethodName) prog_1_method_19_code (3 : Nat) (Option.some Jvm.ClassFile.FieldType.int)).before args0 about1 = true := code_word (m := ⟨2, 18⟩) (meth := k2m18) (c := k2c18) (by decide +kernel) rfl rfl rfl (by decide +kernel)
set_option maxRecDepth 65536 in
theorem w_c26 : (Jvm.Cond.code ({ cls := "Ll1RecoverGen", name := "nullable", desc := "(I)Z" } : Jvm.MethodName) prog_1_method_16_code (2 : Nat) (Option.some Jvm.ClassFile.FieldType.boolean)).before args0 about1 = true := code_word (m := ⟨2, 15⟩) (meth := k2m15) (c := k2c15) (by decide +kernel) rfl rfl rfl (by decide +kernel)
set_option maxRecDepth 65536 in
theorem w_c27 : (Jvm.Cond.code ({ cls := "Ll1RecoverGen", name := "firstSet", desc := "(I)I" } : Jvm.MethodName) prog_1_method_17_code (2 : Nat) (Option.some Jvm.ClassFile.FieldType.int)).before args0 about1 = true := code_word (m := ⟨2, 16⟩) (meth := k2m16) (c := k2c16) (by decide +kernel) rfl rfl rfl (by decide +kernel)
set_option maxRecDepth 65536 in
theorem w_c28 : (Jvm.Cond.code ({ cls := "Ll1RecoverGen", name := "followSet", desc := "(I)I" } : Jvm.MethodName) prog_1_method_18_code (2 : Nat) (Option.some Jvm.ClassFile.FieldType.int)).before args0 about1 = true := code_word (m := ⟨2, 17⟩) (meth := k2m17) (c := k2c17) (by decide +kernel) rfl rfl rfl (by decide +kernel)
set_option maxRecDepth 65536 in
theorem w_c29 : (Jvm.Cond.code ({ cls := "Ll1RecoverGen", name := "conflict", desc := "(I)I" } : Jvm.MethodName) prog_1_method_20_code (2 : Nat) (Option.some Jvm.ClassFile.FieldType.int)).before args0 about1 = true := code_word (m := ⟨2, 19⟩) (meth := k2m19) (c := k2c19) (by decide +kernel) rfl rfl rfl (by decide +kernel)
set_option maxRecDepth 65536 in
theorem w_c30 : (Jvm.Cond.code ({ cls := "Ll1RecoverGen", name := "nodeCount", desc := "()I" } : Jvm.MethodName) prog_1_method_34_code (1 : Nat) (Option.some Jvm.ClassFile.FieldType.int)).before args0 about1 = true := code_word (m := ⟨2, 33⟩) (meth := k2m33) (c := k2c33) (by decide +kernel) rfl rfl rfl (by decide +kernel)
set_option maxRecDepth 65536 in
theorem w_c31 : (Jvm.Cond.code ({ cls := "Ll1RecoverGen", name := "errorCount", desc := "()I" } : Jvm.MethodName) prog_1_method_32_code (1 : Nat) (Option.some Jvm.ClassFile.FieldType.int)).before args0 about1 = true := code_word (m := ⟨2, 31⟩) (meth := k2m31) (c := k2c31) (by decide +kernel) rfl rfl rfl (by decide +kernel)
set_option maxRecDepth 65536 in
theorem w_c32 : (Jvm.Cond.code ({ cls := "Ll1RecoverGen", name := "nodeSymbol", desc := "(I)I" } : Jvm.MethodName) prog_1_method_35_code (2 : Nat) (Option.some Jvm.ClassFile.FieldType.int)).before args0 about1 = true := code_word (m := ⟨2, 34⟩) (meth := k2m34) (c := k2c34) (by decide +kernel) rfl rfl rfl (by decide +kernel)
set_option maxRecDepth 65536 in
theorem w_c33 : (Jvm.Cond.code ({ cls := "Ll1RecoverGen", name := "nodeParent", desc := "(I)I" } : Jvm.MethodName) prog_1_method_36_code (2 : Nat) (Option.some Jvm.ClassFile.FieldType.int)).before args0 about1 = true := code_word (m := ⟨2, 35⟩) (meth := k2m35) (c := k2c35) (by decide +kernel) rfl rfl rfl (by decide +kernel)
set_option maxRecDepth 65536 in
theorem w_c34 : (Jvm.Cond.code ({ cls := "Ll1RecoverGen", name := "nodeDetail", desc := "(I)I" } : Jvm.MethodName) prog_1_method_37_code (2 : Nat) (Option.some Jvm.ClassFile.FieldType.int)).before args0 about1 = true := code_word (m := ⟨2, 36⟩) (meth := k2m36) (c := k2c36) (by decide +kernel) rfl rfl rfl (by decide +kernel)
set_option maxRecDepth 65536 in
theorem w_c35 : (Jvm.Cond.code ({ cls := "Ll1RecoverGen", name := "error", desc := "(I)I" } : Jvm.MethodName) prog_1_method_33_code (3 : Nat) (Option.some Jvm.ClassFile.FieldType.int)).before args0 about1 = true := code_word (m := ⟨2, 32⟩) (meth := k2m32) (c := k2c32) (by decide +kernel) rfl rfl rfl (by decide +kernel)
set_option maxRecDepth 65536 in
theorem w_c36 : (Jvm.Cond.code ({ cls := "Ll1RecoverGen", name := "recover", desc := "(I)V" } : Jvm.MethodName) prog_1_method_31_code (5 : Nat) (Option.none : Option Jvm.ClassFile.FieldType)).before args0 about1 = true := code_word (m := ⟨2, 30⟩) (meth := k2m30) (c := k2c30) (by decide +kernel) rfl rfl rfl (by decide +kernel)
set_option maxRecDepth 65536 in
theorem w_c37 : (Jvm.Cond.code ({ cls := "Ll1RecoverGen", name := "syncSet", desc := "(I)I" } : Jvm.MethodName) prog_1_method_30_code (5 : Nat) (Option.some Jvm.ClassFile.FieldType.int)).before args0 about1 = true := code_word (m := ⟨2, 29⟩) (meth := k2m29) (c := k2c29) (by decide +kernel) rfl rfl rfl (by decide +kernel)
set_option maxRecDepth 65536 in
theorem w_c38 : (Jvm.Cond.code ({ cls := "Ll1RecoverGen", name := "record", desc := "(III)V" } : Jvm.MethodName) prog_1_method_24_code (4 : Nat) (Option.none : Option Jvm.ClassFile.FieldType)).before args0 about1 = true := code_word (m := ⟨2, 23⟩) (meth := k2m23) (c := k2c23) (by decide +kernel) rfl rfl rfl (by decide +kernel)
set_option maxRecDepth 65536 in
theorem w_c39 : (Jvm.Cond.code ({ cls := "Ll1RecoverGen", name := "push", desc := "(I)V" } : Jvm.MethodName) prog_1_method_29_code (2 : Nat) (Option.none : Option Jvm.ClassFile.FieldType)).before args0 about1 = true := code_word (m := ⟨2, 28⟩) (meth := k2m28) (c := k2c28) (by decide +kernel) rfl rfl rfl (by decide +kernel)
set_option maxRecDepth 65536 in
theorem w_c40 : (Jvm.Cond.code ({ cls := "Ll1RecoverGen", name := "matchTerminal", desc := "(II)V" } : Jvm.MethodName) prog_1_method_26_code (4 : Nat) (Option.none : Option Jvm.ClassFile.FieldType)).before args0 about1 = true := code_word (m := ⟨2, 25⟩) (meth := k2m25) (c := k2c25) (by decide +kernel) rfl rfl rfl (by decide +kernel)
def codes1 : List Jvm.Cond := [Jvm.Cond.code x code maxLocals ret, Jvm.Cond.code ({ cls := "Ll1RecoverGen", name := "<init>", desc := "(II)V" } : Jvm.MethodName) prog_1_method_1_code (3 : Nat) (Option.none : Option Jvm.ClassFile.FieldType), Jvm.Cond.code ({ cls := "java/lang/Object", name := "<init>", desc := "()V" } : Jvm.MethodName) object_method_1_code (1 : Nat) (Option.none : Option Jvm.ClassFile.FieldType), Jvm.Cond.code ({ cls := "Ll1RecoverGen", name := "clamp", desc := "(III)I" } : Jvm.MethodName) prog_1_method_2_code (4 : Nat) (Option.some Jvm.ClassFile.FieldType.int), Jvm.Cond.code ({ cls := "Ll1RecoverGenL7", name := "extra", desc := "(LLl1RecoverGen;IZ)Z" } : Jvm.MethodName) method_3_code (3 : Nat) (Option.some Jvm.ClassFile.FieldType.boolean), Jvm.Cond.code ({ cls := "Ll1RecoverGen", name := "beginRule", desc := "(I)I" } : Jvm.MethodName) prog_1_method_3_code (3 : Nat) (Option.some Jvm.ClassFile.FieldType.int), Jvm.Cond.code ({ cls := "Ll1RecoverGen", name := "addSymbol", desc := "(I)Z" } : Jvm.MethodName) prog_1_method_4_code (3 : Nat) (Option.some Jvm.ClassFile.FieldType.boolean), Jvm.Cond.code ({ cls := "Ll1RecoverGen", name := "validSymbol", desc := "(I)Z" } : Jvm.MethodName) prog_1_method_5_code (2 : Nat) (Option.some Jvm.ClassFile.FieldType.boolean), Jvm.Cond.code ({ cls := "Ll1RecoverGen", name := "build", desc := "()I" } : Jvm.MethodName) prog_1_method_6_code (2 : Nat) (Option.some Jvm.ClassFile.FieldType.int), Jvm.Cond.code ({ cls := "Ll1RecoverGen", name := "nullablePass", desc := "()Z" } : Jvm.MethodName) prog_1_method_9_code (4 : Nat) (Option.some Jvm.ClassFile.FieldType.boolean), Jvm.Cond.code ({ cls := "Ll1RecoverGen", name := "seqNullable", desc := "(II)Z" } : Jvm.MethodName) prog_1_method_7_code (6 : Nat) (Option.some Jvm.ClassFile.FieldType.boolean), Jvm.Cond.code ({ cls := "Ll1RecoverGen", name := "firstPass", desc := "()Z" } : Jvm.MethodName) prog_1_method_10_code (5 : Nat) (Option.some Jvm.ClassFile.FieldType.boolean), Jvm.Cond.code ({ cls := "Ll1RecoverGen", name := "firstOfSeq", desc := "(II)I" } : Jvm.MethodName) prog_1_method_8_code (7 : Nat) (Option.some Jvm.ClassFile.FieldType.int), Jvm.Cond.code ({ cls := "Ll1RecoverGen", name := "followPass", desc := "()Z" } : Jvm.MethodName) prog_1_method_11_code (3 : Nat) (Option.some Jvm.ClassFile.FieldType.boolean), Jvm.Cond.code ({ cls := "Ll1RecoverGen", name := "followRule", desc := "(I)Z" } : Jvm.MethodName) prog_1_method_12_code (9 : Nat) (Option.some Jvm.ClassFile.FieldType.boolean), Jvm.Cond.code ({ cls := "Ll1RecoverGen", name := "fillTable", desc := "()V" } : Jvm.MethodName) prog_1_method_14_code (2 : Nat) (Option.none : Option Jvm.ClassFile.FieldType), Jvm.Cond.code ({ cls := "Ll1RecoverGen", name := "fillRule", desc := "(I)V" } : Jvm.MethodName) prog_1_method_15_code (7 : Nat) (Option.none : Option Jvm.ClassFile.FieldType), Jvm.Cond.code ({ cls := "Ll1RecoverGen", name := "predict", desc := "(I)I" } : Jvm.MethodName) prog_1_method_13_code (3 : Nat) (Option.some Jvm.ClassFile.FieldType.int), Jvm.Cond.code ({ cls := "Ll1RecoverGen", name := "parse", desc := "()I" } : Jvm.MethodName) prog_1_method_22_code (4 : Nat) (Option.some Jvm.ClassFile.FieldType.int), Jvm.Cond.code ({ cls := "Ll1RecoverGen", name := "expandOrRecover", desc := "(II)Z" } : Jvm.MethodName) prog_1_method_27_code (5 : Nat) (Option.some Jvm.ClassFile.FieldType.boolean), Jvm.Cond.code ({ cls := "Ll1RecoverGen", name := "lookahead", desc := "()I" } : Jvm.MethodName) prog_1_method_23_code (1 : Nat) (Option.some Jvm.ClassFile.FieldType.int), Jvm.Cond.code ({ cls := "Ll1RecoverGen", name := "expand", desc := "(II)Z" } : Jvm.MethodName) prog_1_method_28_code (7 : Nat) (Option.some Jvm.ClassFile.FieldType.boolean), Jvm.Cond.code ({ cls := "Ll1RecoverGen", name := "skipRest", desc := "()V" } : Jvm.MethodName) prog_1_method_25_code (2 : Nat) (Option.none : Option Jvm.ClassFile.FieldType), Jvm.Cond.code ({ cls := "Ll1RecoverGen", name := "token", desc := "(I)Z" } : Jvm.MethodName) prog_1_method_21_code (2 : Nat) (Option.some Jvm.ClassFile.FieldType.boolean), Jvm.Cond.code ({ cls := "Ll1RecoverGenL7", name := "same", desc := "(LLl1RecoverGen;LLl1RecoverGen;)Z" } : Jvm.MethodName) method_4_code (5 : Nat) (Option.some Jvm.ClassFile.FieldType.boolean), Jvm.Cond.code ({ cls := "Ll1RecoverGen", name := "tableEntry", desc := "(II)I" } : Jvm.MethodName) prog_1_method_19_code (3 : Nat) (Option.some Jvm.ClassFile.FieldType.int), Jvm.Cond.code ({ cls := "Ll1RecoverGen", name := "nullable", desc := "(I)Z" } : Jvm.MethodName) prog_1_method_16_code (2 : Nat) (Option.some Jvm.ClassFile.FieldType.boolean), Jvm.Cond.code ({ cls := "Ll1RecoverGen", name := "firstSet", desc := "(I)I" } : Jvm.MethodName) prog_1_method_17_code (2 : Nat) (Option.some Jvm.ClassFile.FieldType.int), Jvm.Cond.code ({ cls := "Ll1RecoverGen", name := "followSet", desc := "(I)I" } : Jvm.MethodName) prog_1_method_18_code (2 : Nat) (Option.some Jvm.ClassFile.FieldType.int), Jvm.Cond.code ({ cls := "Ll1RecoverGen", name := "conflict", desc := "(I)I" } : Jvm.MethodName) prog_1_method_20_code (2 : Nat) (Option.some Jvm.ClassFile.FieldType.int), Jvm.Cond.code ({ cls := "Ll1RecoverGen", name := "nodeCount", desc := "()I" } : Jvm.MethodName) prog_1_method_34_code (1 : Nat) (Option.some Jvm.ClassFile.FieldType.int), Jvm.Cond.code ({ cls := "Ll1RecoverGen", name := "errorCount", desc := "()I" } : Jvm.MethodName) prog_1_method_32_code (1 : Nat) (Option.some Jvm.ClassFile.FieldType.int), Jvm.Cond.code ({ cls := "Ll1RecoverGen", name := "nodeSymbol", desc := "(I)I" } : Jvm.MethodName) prog_1_method_35_code (2 : Nat) (Option.some Jvm.ClassFile.FieldType.int), Jvm.Cond.code ({ cls := "Ll1RecoverGen", name := "nodeParent", desc := "(I)I" } : Jvm.MethodName) prog_1_method_36_code (2 : Nat) (Option.some Jvm.ClassFile.FieldType.int), Jvm.Cond.code ({ cls := "Ll1RecoverGen", name := "nodeDetail", desc := "(I)I" } : Jvm.MethodName) prog_1_method_37_code (2 : Nat) (Option.some Jvm.ClassFile.FieldType.int), Jvm.Cond.code ({ cls := "Ll1RecoverGen", name := "error", desc := "(I)I" } : Jvm.MethodName) prog_1_method_33_code (3 : Nat) (Option.some Jvm.ClassFile.FieldType.int), Jvm.Cond.code ({ cls := "Ll1RecoverGen", name := "recover", desc := "(I)V" } : Jvm.MethodName) prog_1_method_31_code (5 : Nat) (Option.none : Option Jvm.ClassFile.FieldType), Jvm.Cond.code ({ cls := "Ll1RecoverGen", name := "syncSet", desc := "(I)I" } : Jvm.MethodName) prog_1_method_30_code (5 : Nat) (Option.some Jvm.ClassFile.FieldType.int), Jvm.Cond.code ({ cls := "Ll1RecoverGen", name := "record", desc := "(III)V" } : Jvm.MethodName) prog_1_method_24_code (4 : Nat) (Option.none : Option Jvm.ClassFile.FieldType), Jvm.Cond.code ({ cls := "Ll1RecoverGen", name := "push", desc := "(I)V" } : Jvm.MethodName) prog_1_method_29_code (2 : Nat) (Option.none : Option Jvm.ClassFile.FieldType), Jvm.Cond.code ({ cls := "Ll1RecoverGen", name := "matchTerminal", desc := "(II)V" } : Jvm.MethodName) prog_1_method_26_code (4 : Nat) (Option.none : Option Jvm.ClassFile.FieldType)]
set_option maxRecDepth 65536 in
theorem codes_eq : words1.filter isCode = codes1 := rfl
theorem w_codes : ∀ c ∈ words1.filter isCode, c.before args0 about1 = true := by
  rw [codes_eq]
  intro c hc
  simp only [codes1, List.mem_cons, List.not_mem_nil, or_false] at hc
  rcases hc with rfl | rfl | rfl | rfl | rfl | rfl | rfl | rfl | rfl | rfl | rfl | rfl | rfl | rfl | rfl | rfl | rfl | rfl | rfl | rfl | rfl | rfl | rfl | rfl | rfl | rfl | rfl | rfl | rfl | rfl | rfl | rfl | rfl | rfl | rfl | rfl | rfl | rfl | rfl | rfl | rfl
  · exact w_c0
  · exact w_c1
  · exact w_c2
  · exact w_c3
  · exact w_c4
  · exact w_c5
  · exact w_c6
  · exact w_c7
  · exact w_c8
  · exact w_c9
  · exact w_c10
  · exact w_c11
  · exact w_c12
  · exact w_c13
  · exact w_c14
  · exact w_c15
  · exact w_c16
  · exact w_c17
  · exact w_c18
  · exact w_c19
  · exact w_c20
  · exact w_c21
  · exact w_c22
  · exact w_c23
  · exact w_c24
  · exact w_c25
  · exact w_c26
  · exact w_c27
  · exact w_c28
  · exact w_c29
  · exact w_c30
  · exact w_c31
  · exact w_c32
  · exact w_c33
  · exact w_c34
  · exact w_c35
  · exact w_c36
  · exact w_c37
  · exact w_c38
  · exact w_c39
  · exact w_c40
set_option maxRecDepth 65536 in
theorem w_t1 : (words1.take 24).all (fun c => isCode c || c.before args0 about1) = true := by decide +kernel
set_option maxRecDepth 65536 in
theorem w_t2 : ((words1.drop 24).take 24).all (fun c => isCode c || c.before args0 about1) = true := by decide +kernel
set_option maxRecDepth 65536 in
theorem w_t3 : (((words1.drop 24).drop 24).take 24).all (fun c => isCode c || c.before args0 about1) = true := by decide +kernel
set_option maxRecDepth 65536 in
theorem w_t4 : ((((words1.drop 24).drop 24).drop 24).take 24).all (fun c => isCode c || c.before args0 about1) = true := by decide +kernel
set_option maxRecDepth 65536 in
theorem w_t5 : (((((words1.drop 24).drop 24).drop 24).drop 24).take 24).all (fun c => isCode c || c.before args0 about1) = true := by decide +kernel
set_option maxRecDepth 65536 in
theorem w_t6 : ((((((words1.drop 24).drop 24).drop 24).drop 24).drop 24).take 24).all (fun c => isCode c || c.before args0 about1) = true := by decide +kernel
set_option maxRecDepth 65536 in
theorem w_t7 : (((((((words1.drop 24).drop 24).drop 24).drop 24).drop 24).drop 24).take 24).all (fun c => isCode c || c.before args0 about1) = true := by decide +kernel
set_option maxRecDepth 65536 in
theorem w_t8 : ((((((((words1.drop 24).drop 24).drop 24).drop 24).drop 24).drop 24).drop 24).take 24).all (fun c => isCode c || c.before args0 about1) = true := by decide +kernel
set_option maxRecDepth 65536 in
theorem w_t9 : (((((((((words1.drop 24).drop 24).drop 24).drop 24).drop 24).drop 24).drop 24).drop 24).take 24).all (fun c => isCode c || c.before args0 about1) = true := by decide +kernel
set_option maxRecDepth 65536 in
theorem w_t10 : (((((((((words1.drop 24).drop 24).drop 24).drop 24).drop 24).drop 24).drop 24).drop 24).drop 24).all (fun c => isCode c || c.before args0 about1) = true := by decide +kernel
theorem w_tables : (allAtoms (Jvm.Cond.code x code maxLocals ret :: tables_1)).before args0 about1 = true := by
  rw [allAtoms_all]
  show words1.all (fun c => c.before args0 about1) = true
  refine all_split ?_ w_codes
  rw [← List.take_append_drop 24 words1, List.all_append, w_t1, ← List.take_append_drop 24 (words1.drop 24), List.all_append, w_t2, ← List.take_append_drop 24 ((words1.drop 24).drop 24), List.all_append, w_t3, ← List.take_append_drop 24 (((words1.drop 24).drop 24).drop 24), List.all_append, w_t4, ← List.take_append_drop 24 ((((words1.drop 24).drop 24).drop 24).drop 24), List.all_append, w_t5, ← List.take_append_drop 24 (((((words1.drop 24).drop 24).drop 24).drop 24).drop 24), List.all_append, w_t6, ← List.take_append_drop 24 ((((((words1.drop 24).drop 24).drop 24).drop 24).drop 24).drop 24), List.all_append, w_t7, ← List.take_append_drop 24 (((((((words1.drop 24).drop 24).drop 24).drop 24).drop 24).drop 24).drop 24), List.all_append, w_t8, ← List.take_append_drop 24 ((((((((words1.drop 24).drop 24).drop 24).drop 24).drop 24).drop 24).drop 24).drop 24), List.all_append, w_t9, w_t10]
  rfl
set_option maxRecDepth 65536 in
theorem w_rest : rest_1_c.before args0 about1 = true := by decide +kernel
set_option maxRecDepth 65536 in
theorem w_case : (Jvm.Cond.and given_1 narrow_1).before args0 about1 = true := by decide +kernel
theorem w_applies : (headSpec (Jvm.Cond.code x code maxLocals ret :: tables_1) room_1).applies x e0.platform about1 = true :=
  (Spec.applies_iff w_frames).mpr ⟨w_running, w_runnable, w_alone, w_named, w_hears, w_ripe, w_room, w_tables⟩
theorem atStart : AtStart classFile x code maxLocals ret World_1 tables_1 room_1 Calls_1 rest_1 Pre_1 launch0 p0 e0 about1 theMethod args0 below0 :=
  ⟨lists_1, trivial, launch0.admits_env _ _ _, launch0.least_env, fairChoices_fair.cas, fairChoices_fair.clock, w_frames, w_args, w_heap, w_applies, trivial, w_rest, w_case⟩
end start1
theorem witness_1 : WitnessClaimed_1 := ⟨start1.p0, start1.e0, start1.about1, start1.theMethod, start1.args0, start1.below0, start1.atStart⟩
end Jvm.Pilot.@@N@@
