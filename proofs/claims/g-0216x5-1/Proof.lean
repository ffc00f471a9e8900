import JvmDerived
import JvmDerived.Pilot.@@N@@Statement
import JvmDerived.Pilot.@@N@@Code
set_option linter.unusedVariables false
set_option linter.unusedSimpArgs false
@@BLOCK:NumsL.lean.txt@@
namespace Jvm.LM
open Sem ClassFile Op Lib Jvm.Stand Jvm.Free Jvm.LawKit Jvm.RoadKit
/-! A small machine over plain data that mirrors the bytecode of one class and of a law over it. -/
abbrev Lv := List (Option Value)
abbrev St := (Nat → Nat → Int32) × (Nat → Nat → Int64)
abbrev Cd := List (Nat × Instr × Nat)
/-- name, descriptor, kind (0 int, 1 boolean, 2 long, 3+j the j-th array), final -/
abbrev Fe := String × String × Nat × Bool
/-- name, descriptor, number of arguments, return kind (0 none, 1 int, 2 boolean, 3 long), code, max_locals, room: frames, locals -/
abbrev Me := String × String × Nat × Nat × Cd × Nat × Nat × Nat
/-- class name, fields, arrays (kind, length), pool to field, pool to method, pool to constant, methods, pool index of Object's constructor -/
abbrev Cl := String × List (Nat × Fe) × List (Nat × Nat) × List (Nat × Nat) × List (Nat × Nat) × List (Nat × Value) × List (Nat × Me) × Nat
def Me.nm (m : Me) : String := m.1
def Me.ds (m : Me) : String := m.2.1
def Me.na (m : Me) : Nat := m.2.2.1
def Me.rt (m : Me) : Nat := m.2.2.2.1
def Me.cd (m : Me) : Cd := m.2.2.2.2.1
def Me.ml (m : Me) : Nat := m.2.2.2.2.2.1
def Me.rf (m : Me) : Nat := m.2.2.2.2.2.2.1
def Me.rl (m : Me) : Nat := m.2.2.2.2.2.2.2
def Cl.nm (P : Cl) : String := P.1
def Cl.fs (P : Cl) : List (Nat × Fe) := P.2.1
def Cl.al (P : Cl) : List (Nat × Nat) := P.2.2.1
def Cl.fx (P : Cl) : List (Nat × Nat) := P.2.2.2.1
def Cl.mx (P : Cl) : List (Nat × Nat) := P.2.2.2.2.1
def Cl.kx (P : Cl) : List (Nat × Value) := P.2.2.2.2.2.1
def Cl.ms (P : Cl) : List (Nat × Me) := P.2.2.2.2.2.2.1
def Cl.oi (P : Cl) : Nat := P.2.2.2.2.2.2.2
def gI (s : St) (c j : Nat) : Int32 := s.1 c j
def gL (s : St) (c j : Nat) : Int64 := s.2 c j
def sI (s : St) (c j : Nat) (v : Int32) : St := (fun a b => if a = c ∧ b = j then v else s.1 a b, s.2)
def sL (s : St) (c j : Nat) (v : Int64) : St := (s.1, fun a b => if a = c ∧ b = j then v else s.2 a b)
def s0 : St := (fun _ _ => 0, fun _ _ => 0)
def ix (i : Int32) : Nat := i.toNatClampNeg
abbrev inb (n : Nat) (i : Int32) : Prop := 0 ≤ i.toInt ∧ i.toInt < (n : Int)
def asc {α : Type} : List (Nat × α) → Nat → Option α
  | [], _ => none
  | (a, b) :: r, k => match Nat.beq a k with
    | true => some b
    | false => asc r k
def fetch : Cd → Nat → Option (Instr × Nat)
  | [], _ => none
  | (a, b) :: r, k => match Nat.beq a k with
    | true => some b
    | false => fetch r k
def ilen : Instr → Nat
  | .iload _ => 2 | .lload _ => 2 | .aload _ => 2 | .istore _ => 2 | .lstore _ => 2 | .astore _ => 2 | .bipush _ => 2 | .ldc _ => 2 | .newarray _ => 2
  | .sipush _ => 3 | .iinc _ _ => 3 | .goto _ => 3 | .ifCond _ _ => 3 | .if_icmp _ _ => 3 | .getfield _ => 3 | .putfield _ => 3
  | .invokevirtual _ => 3 | .invokespecial _ => 3 | .invokestatic _ => 3 | .new _ => 3 | .ldc2_w _ => 3
  | _ => 1
def isSw : Instr → Bool
  | .tableswitch _ _ _ _ => true
  | _ => false
def clr (ls : Lv) : Nat → Lv
  | 0 => ls
  | j + 1 => match ls[j]? with
    | some (some (.long _)) => ls.set j none
    | some (some (.double _)) => ls.set j none
    | _ => ls
/-- a store into the local variables: a long takes two -/
def stl (ls : Lv) (i : Nat) (v : Value) : Option Lv :=
  match v with
  | .long x => if i + 1 < ls.length then some (((clr ls i).set i (some (.long x))).set (i + 1) none) else none
  | w => if i < ls.length then some ((clr ls i).set i (some w)) else none
def br (cd : ClassFile.Cond) (x y : Int32) (a b : Nat) : Nat :=
  match cd with
  | .eq => if x = y then a else b
  | .ne => if x = y then b else a
  | .lt => if x < y then a else b
  | .ge => if x < y then b else a
  | .gt => if y < x then a else b
  | .le => if y < x then b else a
def jmp (pc : Nat) (o : Int) : Nat := ((pc : Int) + o).toNat
def qstep (i : Instr) (pc : Nat) (st : List Value) : Option (Nat × List Value) :=
  match i with
  | .iconst v => some (pc + 1, .int (Int32.ofInt v) :: st)
  | .bipush v => some (pc + 2, .int (Int8.ofInt v).toInt32 :: st)
  | .sipush v => some (pc + 3, .int (Int16.ofInt v).toInt32 :: st)
  | .lconst k => some (pc + 1, .long (Int64.ofNat k) :: st)
  | .iadd => match st with | .int y :: .int x :: r => some (pc + 1, .int (x + y) :: r) | _ => none
  | .isub => match st with | .int y :: .int x :: r => some (pc + 1, .int (x - y) :: r) | _ => none
  | .imul => match st with | .int y :: .int x :: r => some (pc + 1, .int (x * y) :: r) | _ => none
  | .iand => match st with | .int y :: .int x :: r => some (pc + 1, .int (x &&& y) :: r) | _ => none
  | .ior => match st with | .int y :: .int x :: r => some (pc + 1, .int (x ||| y) :: r) | _ => none
  | .ixor => match st with | .int y :: .int x :: r => some (pc + 1, .int (x ^^^ y) :: r) | _ => none
  | .ishl => match st with | .int y :: .int x :: r => some (pc + 1, .int (x <<< (y &&& 31)) :: r) | _ => none
  | .ishr => match st with | .int y :: .int x :: r => some (pc + 1, .int (x >>> (y &&& 31)) :: r) | _ => none
  | .iushr => match st with | .int y :: .int x :: r => some (pc + 1, .int (XT.ushr x y) :: r) | _ => none
  | .idiv => match st with | .int y :: .int x :: r => if y = 0 then none else some (pc + 1, .int (x / y) :: r) | _ => none
  | .irem => match st with | .int y :: .int x :: r => if y = 0 then none else some (pc + 1, .int (x % y) :: r) | _ => none
  | .ineg => match st with | .int x :: r => some (pc + 1, .int (-x) :: r) | _ => none
  | .ladd => match st with | .long y :: .long x :: r => some (pc + 1, .long (x + y) :: r) | _ => none
  | .lsub => match st with | .long y :: .long x :: r => some (pc + 1, .long (x - y) :: r) | _ => none
  | .lmul => match st with | .long y :: .long x :: r => some (pc + 1, .long (x * y) :: r) | _ => none
  | .land => match st with | .long y :: .long x :: r => some (pc + 1, .long (x &&& y) :: r) | _ => none
  | .lor => match st with | .long y :: .long x :: r => some (pc + 1, .long (x ||| y) :: r) | _ => none
  | .lxor => match st with | .long y :: .long x :: r => some (pc + 1, .long (x ^^^ y) :: r) | _ => none
  | .lshl => match st with | .int y :: .long x :: r => some (pc + 1, .long (x <<< (y.toInt64 &&& 63)) :: r) | _ => none
  | .lshr => match st with | .int y :: .long x :: r => some (pc + 1, .long (x >>> (y.toInt64 &&& 63)) :: r) | _ => none
  | .lushr => match st with | .int y :: .long x :: r => some (pc + 1, .long (XT.ushrL x y) :: r) | _ => none
  | .ldiv => match st with | .long y :: .long x :: r => if y = 0 then none else some (pc + 1, .long (x / y) :: r) | _ => none
  | .lneg => match st with | .long x :: r => some (pc + 1, .long (-x) :: r) | _ => none
  | .lcmp => match st with | .long y :: .long x :: r => some (pc + 1, .int (XT.cmpL x y) :: r) | _ => none
  | .i2l => match st with | .int x :: r => some (pc + 1, .long x.toInt64 :: r) | _ => none
  | .l2i => match st with | .long x :: r => some (pc + 1, .int x.toInt32 :: r) | _ => none
  | .dup => match st with | .int x :: r => some (pc + 1, .int x :: .int x :: r) | .ref x :: r => some (pc + 1, .ref x :: .ref x :: r) | _ => none
  | .pop => match st with | .int _ :: r => some (pc + 1, r) | .ref _ :: r => some (pc + 1, r) | _ => none
  | .goto o => if 0 ≤ (pc : Int) + o then some (jmp pc o, st) else none
  | .ifCond cd o => match st with | .int x :: r => if 0 ≤ (pc : Int) + o then some (br cd x 0 (jmp pc o) (pc + 3), r) else none | _ => none
  | .if_icmp cd o => match st with | .int y :: .int x :: r => if 0 ≤ (pc : Int) + o then some (br cd x y (jmp pc o) (pc + 3), r) else none | _ => none
  | .tableswitch d lo hi offs => match st with
    | .int x :: r => if x.toInt < lo ∨ x.toInt > hi then (if 0 ≤ (pc : Int) + d then some (jmp pc d, r) else none)
      else (match offs[(x.toInt - lo).toNat]? with | some o => if 0 ≤ (pc : Int) + o then some (jmp pc o, r) else none | none => none)
    | _ => none
  | _ => none
def pstep (i : Instr) (pc : Nat) (ls : Lv) (st : List Value) : Option (Nat × Lv × List Value) :=
  match i with
  | .iload_n k => match ls[k.val]? with | some (some (.int v)) => some (pc + 1, ls, .int v :: st) | _ => none
  | .iload k => match ls[k]? with | some (some (.int v)) => some (pc + 2, ls, .int v :: st) | _ => none
  | .lload_n k => match ls[k.val]? with | some (some (.long v)) => some (pc + 1, ls, .long v :: st) | _ => none
  | .lload k => match ls[k]? with | some (some (.long v)) => some (pc + 2, ls, .long v :: st) | _ => none
  | .aload_n k => match ls[k.val]? with | some (some (.ref v)) => some (pc + 1, ls, .ref v :: st) | _ => none
  | .aload k => match ls[k]? with | some (some (.ref v)) => some (pc + 2, ls, .ref v :: st) | _ => none
  | .istore_n k => match st with | .int v :: r => (match stl ls k.val (.int v) with | some l => some (pc + 1, l, r) | none => none) | _ => none
  | .istore k => match st with | .int v :: r => (match stl ls k (.int v) with | some l => some (pc + 2, l, r) | none => none) | _ => none
  | .lstore_n k => match st with | .long v :: r => (match stl ls k.val (.long v) with | some l => some (pc + 1, l, r) | none => none) | _ => none
  | .lstore k => match st with | .long v :: r => (match stl ls k (.long v) with | some l => some (pc + 2, l, r) | none => none) | _ => none
  | .astore_n k => match st with | .ref v :: r => (match stl ls k.val (.ref v) with | some l => some (pc + 1, l, r) | none => none) | _ => none
  | .astore k => match st with | .ref v :: r => (match stl ls k (.ref v) with | some l => some (pc + 2, l, r) | none => none) | _ => none
  | .iinc k d => match ls[k]? with | some (some (.int v)) => (match stl ls k (.int (v + Int32.ofInt d)) with | some l => some (pc + 3, l, st) | none => none) | _ => none
  | i => match qstep i pc st with | some (pc', st') => some (pc', ls, st') | none => none
/-- how the machine's references stand in the heap -/
def va (ρ : Nat → Nat) : Value → Value
  | .ref c => .ref (ρ c)
  | v => v
def WF (L : Array Slot) : Prop :=
  (∀ (k : Nat) (v : Value), L[k]? = some (Slot.val v) → v.category = 2 → L[k + 1]? = some .second) ∧
  (∀ k : Nat, L[k + 1]? = some Slot.second → ∃ v : Value, L[k]? = some (Slot.val v) ∧ v.category = 2) ∧ L[0]? ≠ some Slot.second
def LR (ρ : Nat → Nat) (ls : Lv) (L : Array Slot) : Prop :=
  L.size = ls.length ∧ (∀ (k : Nat) (v : Value), ls[k]? = some (some v) → L[k]? = some (Slot.val (va ρ v))) ∧ WF L
end Jvm.LM

namespace Jvm.LM
open Sem ClassFile Op Lib Jvm.Stand Jvm.Free Jvm.LawKit Jvm.RoadKit
/-! the local variables -/
def upd (f : Nat → Option Slot) (i : Nat) (x : Slot) : Nat → Option Slot := fun k => if k = i then some x else f k
def WFf (f : Nat → Option Slot) : Prop :=
  (∀ k v, f k = some (.val v) → v.category = 2 → f (k + 1) = some .second) ∧
  (∀ k, f (k + 1) = some .second → ∃ v, f k = some (.val v) ∧ v.category = 2) ∧ f 0 ≠ some .second
def clearF (f : Nat → Option Slot) (i : Nat) : Nat → Option Slot :=
  match f i with
  | some .second => upd (upd f (i - 1) .unset) i .unset
  | some (.val old) => if old.category = 2 then upd (upd f (i + 1) .unset) i .unset else upd f i .unset
  | _ => f
theorem clearF_cases (f : Nat → Option Slot) (i : Nat) : (f i = some .second ∧ clearF f i = upd (upd f (i - 1) .unset) i .unset) ∨ (∃ old, f i = some (.val old) ∧ old.category = 2 ∧ clearF f i = upd (upd f (i + 1) .unset) i .unset) ∨
    (∃ old, f i = some (.val old) ∧ old.category ≠ 2 ∧ clearF f i = upd f i .unset) ∨ ((f i = some .unset ∨ f i = none) ∧ clearF f i = f) := by
  cases h : f i with
  | none => exact Or.inr (Or.inr (Or.inr ⟨Or.inr rfl, by simp only [clearF, h]⟩))
  | some x =>
    cases x with
    | unset => exact Or.inr (Or.inr (Or.inr ⟨Or.inl rfl, by simp only [clearF, h]⟩))
    | second => exact Or.inl ⟨rfl, by simp only [clearF, h]⟩
    | val old =>
      by_cases hc : old.category = 2
      · exact Or.inr (Or.inl ⟨old, rfl, hc, by simp only [clearF, h]; rw [if_pos hc]⟩)
      · exact Or.inr (Or.inr (Or.inl ⟨old, rfl, hc, by simp only [clearF, h]; rw [if_neg hc]⟩))
theorem wff_clear {f : Nat → Option Slot} (h : WFf f) (i : Nat) : WFf (clearF f i) := by
  obtain ⟨h1, h2, h3⟩ := h
  unfold clearF
  split
  · rename_i e
    cases i with
    | zero => exact absurd e h3
    | succ j =>
      refine ⟨fun k v hk hc => ?_, fun k hk => ?_, ?_⟩
      · simp only [upd, Nat.add_sub_cancel] at hk ⊢
        have := h1 k v
        by_cases a : k = j + 1
        · simp [a] at hk
        · by_cases b : k = j
          · simp [b] at hk
          · have c : k + 1 ≠ j + 1 := by omega
            simp only [a, b, if_false] at hk
            by_cases d : k + 1 = j
            · have := h1 k v hk hc
              obtain ⟨w, hw, hw2⟩ := h2 j e
              rw [d, hw] at this; cases this
            · simp [c, d, b, h1 k v hk hc]
      · simp only [upd, Nat.add_sub_cancel] at hk ⊢
        by_cases a : k = j
        · simp [a] at hk
        · by_cases b : k + 1 = j
          · simp [b] at hk
          · simp only [show ¬ (k + 1 = j + 1) by omega, b, if_false] at hk
            obtain ⟨w, hw, hw2⟩ := h2 k hk
            by_cases d : k = j + 1
            · rw [d, e] at hw; cases hw
            · exact ⟨w, by simp [d, a, hw], hw2⟩
      · simp only [upd, Nat.add_sub_cancel]
        by_cases b : 0 = j
        · simp [← b]
        · simp [b, h3]
  · rename_i old e
    split
    · rename_i hc2
      have e2 := h1 i old e hc2
      refine ⟨fun k v hk hc => ?_, fun k hk => ?_, ?_⟩
      · simp only [upd] at hk ⊢
        by_cases a : k = i
        · simp [a] at hk
        · by_cases b : k = i + 1
          · simp [b] at hk
          · simp only [a, b, if_false] at hk
            have q := h1 k v hk hc
            by_cases d : k + 1 = i
            · rw [d, e] at q; cases q
            · simp [d, a, show ¬ (k + 1 = i + 1) by omega, q]
      · simp only [upd] at hk ⊢
        by_cases a : k + 1 = i
        · simp [a] at hk
        · by_cases b : k = i
          · simp [b] at hk
          · simp only [a, show ¬ (k + 1 = i + 1) by omega, if_false] at hk
            obtain ⟨w, hw, hw2⟩ := h2 k hk
            by_cases d : k = i + 1
            · rw [d, e2] at hw; cases hw
            · exact ⟨w, by simp [d, b, hw], hw2⟩
      · simp only [upd]
        by_cases b : 0 = i
        · simp [← b]
        · simp [b, h3]
    · rename_i hc2
      refine ⟨fun k v hk hc => ?_, fun k hk => ?_, ?_⟩
      · simp only [upd] at hk ⊢
        by_cases a : k = i
        · simp [a] at hk
        · simp only [a, if_false] at hk
          have q := h1 k v hk hc
          by_cases d : k + 1 = i
          · rw [d, e] at q; cases q
          · simp [d, q]
      · simp only [upd] at hk ⊢
        by_cases a : k + 1 = i
        · simp [a] at hk
        · simp only [a, if_false] at hk
          obtain ⟨w, hw, hw2⟩ := h2 k hk
          by_cases d : k = i
          · rw [d, e] at hw; cases hw; exact absurd hw2 hc2
          · exact ⟨w, by simp [d, hw], hw2⟩
      · simp only [upd]
        by_cases b : 0 = i
        · simp [← b]
        · simp [b, h3]
  · exact ⟨h1, h2, h3⟩
theorem wff_one {f : Nat → Option Slot} (h : WFf f) {i : Nat} (e : f i = some .unset) {v : Value} (hv : v.category ≠ 2) : WFf (upd f i (.val v)) := by
  obtain ⟨h1, h2, h3⟩ := h
  refine ⟨fun k w hk hc => ?_, fun k hk => ?_, ?_⟩
  · simp only [upd] at hk ⊢
    by_cases a : k = i
    · simp only [a, if_true, Option.some.injEq, Slot.val.injEq] at hk; subst hk; exact absurd hc hv
    · simp only [a, if_false] at hk
      have q := h1 k w hk hc
      by_cases d : k + 1 = i
      · rw [d, e] at q; cases q
      · simp [d, q]
  · simp only [upd] at hk ⊢
    by_cases a : k + 1 = i
    · simp [a] at hk
    · simp only [a, if_false] at hk
      obtain ⟨w, hw, hw2⟩ := h2 k hk
      by_cases d : k = i
      · rw [d, e] at hw; cases hw
      · exact ⟨w, by simp [d, hw], hw2⟩
  · simp only [upd]
    by_cases b : 0 = i
    · simp [← b]
    · simp [b, h3]
theorem wff_two {f : Nat → Option Slot} (h : WFf f) {i : Nat} (e : f i = some .unset) (e' : f (i + 1) = some .unset) {v : Value} (hv : v.category = 2) : WFf (upd (upd f i (.val v)) (i + 1) .second) := by
  obtain ⟨h1, h2, h3⟩ := h
  refine ⟨fun k w hk hc => ?_, fun k hk => ?_, ?_⟩
  · simp only [upd] at hk ⊢
    by_cases a : k = i + 1
    · simp [a] at hk
    · by_cases b : k = i
      · simp [b]
      · simp only [a, b, if_false] at hk
        have q := h1 k w hk hc
        by_cases d : k + 1 = i
        · rw [d, e] at q; cases q
        · simp [d, show ¬ (k + 1 = i + 1) by omega, q]
  · simp only [upd] at hk ⊢
    by_cases a : k = i
    · exact ⟨v, by simp [a], hv⟩
    · by_cases b : k + 1 = i
      · simp [b] at hk
      · simp only [show ¬ (k + 1 = i + 1) by omega, b, if_false] at hk
        obtain ⟨w, hw, hw2⟩ := h2 k hk
        by_cases d : k = i + 1
        · rw [d, e'] at hw; cases hw
        · exact ⟨w, by simp [d, a, hw], hw2⟩
  · simp only [upd]
    by_cases b : 0 = i
    · simp [← b]
    · simp [b, h3]
theorem gset (L : Array Slot) {i : Nat} (hi : i < L.size) (x : Slot) : (fun k => (L.setIfInBounds i x)[k]?) = upd (fun k => L[k]?) i x := by
  funext k
  simp only [upd, Array.getElem?_setIfInBounds]
  by_cases a : i = k
  · subst a; simp [hi]
  · simp [a, show ¬ k = i from fun h => a h.symm]
theorem sl_eq (L : Array Slot) (i : Nat) (v : Value) : storeLocals L i v = (L[i]?).bind (fun x => match x with
    | .second => (setAt L (i - 1) .unset).bind (fun l => storeSelf l i v)
    | .val old => if old.category = 2 then (setAt L (i + 1) .unset).bind (fun l => storeSelf l i v) else storeSelf L i v
    | .unset => storeSelf L i v) := rfl
theorem ss_eq (L : Array Slot) (i : Nat) (v : Value) : storeSelf L i v = (setAt L i (.val v)).bind (fun l => if v.category = 2 then (l[i + 1]?).bind (fun x => match x with
    | .val old => if old.category = 2 then (setAt l (i + 2) .unset).bind (fun l' => setAt l' (i + 1) .second) else setAt l (i + 1) .second
    | _ => setAt l (i + 1) .second) else some l) := rfl
theorem sa_eq {L : Array Slot} {i : Nat} (hi : i < L.size) (x : Slot) : setAt L i x = some (L.setIfInBounds i x) := if_pos hi
theorem upd_upd (f : Nat → Option Slot) (i : Nat) (x y : Slot) : upd (upd f i x) i y = upd f i y := by
  funext k; simp only [upd]; split <;> rfl
/-- what a store clears first -/
theorem clear_ok {L : Array Slot} (hW : WF L) {i : Nat} (hi : i < L.size) (v : Value) : ∃ L1, storeLocals L i v = storeSelf L1 i v ∧ L1.size = L.size ∧ upd (fun k => L1[k]?) i .unset = upd (clearF (fun k => L[k]?) i) i .unset := by
  have hh : WFf (fun k => L[k]?) := hW
  obtain ⟨sl, hsl⟩ : ∃ sl, L[i]? = some sl := ⟨L[i], Array.getElem?_eq_getElem hi⟩
  rw [sl_eq, hsl, Option.bind_some]
  cases sl with
  | unset => exact ⟨L, rfl, rfl, by simp only [clearF, hsl]⟩
  | second =>
    refine ⟨L.setIfInBounds (i - 1) .unset, ?_, by simp, ?_⟩
    · show (setAt L (i - 1) .unset).bind _ = _
      rw [sa_eq (by omega)]; rfl
    · rw [gset _ (by omega)]; simp only [clearF, hsl, upd_upd]
  | val old =>
    by_cases hc : old.category = 2
    · have h2 := hh.1 i old hsl hc
      have hlt : i + 1 < L.size := (Array.getElem?_eq_some_iff.mp h2).1
      refine ⟨L.setIfInBounds (i + 1) .unset, ?_, by simp, ?_⟩
      · show (if old.category = 2 then _ else _) = _
        rw [if_pos hc, sa_eq hlt]; rfl
      · rw [gset _ hlt]; simp only [clearF, hsl, hc, if_true, upd_upd]
    · refine ⟨L, ?_, rfl, ?_⟩
      · show (if old.category = 2 then _ else _) = _
        rw [if_neg hc]
      · simp only [clearF, hsl, hc, if_false, upd_upd]
theorem clearF_at {f : Nat → Option Slot} {i : Nat} (hi : f i ≠ none) : clearF f i i = some .unset := by
  rcases clearF_cases f i with ⟨h1, h2⟩ | ⟨old, h1, h3, h2⟩ | ⟨old, h1, h3, h2⟩ | ⟨h1 | h1, h2⟩
  · rw [h2]; simp [upd]
  · rw [h2]; simp [upd]
  · rw [h2]; simp [upd]
  · rw [h2]; exact h1
  · exact absurd h1 hi
theorem clearF_self {f : Nat → Option Slot} {i : Nat} (hi : f i ≠ none) : upd (clearF f i) i .unset = clearF f i := by
  funext k; simp only [upd]; split
  · rename_i e; rw [e]; exact (clearF_at hi).symm
  · rfl
/-- the other variables: kept, or they held (a part of) a long -/
theorem clearF_keep {f : Nat → Option Slot} (h : WFf f) {i k : Nat} {w : Value} (hk : k ≠ i) (e : f k = some (.val w)) (hw : k + 1 = i → w.category ≠ 2) : clearF f i k = some (.val w) := by
  rcases clearF_cases f i with ⟨e2, h2⟩ | ⟨old, e2, hc, h2⟩ | ⟨old, e2, hc, h2⟩ | ⟨-, h2⟩
  · rw [h2]
    cases i with
    | zero => exact absurd e2 h.2.2
    | succ j =>
      simp only [upd, Nat.add_sub_cancel, hk, if_false]
      split
      · rename_i hj; subst hj
        obtain ⟨v, hv, hv2⟩ := h.2.1 k e2
        rw [e] at hv; cases hv; exact absurd hv2 (hw rfl)
      · exact e
  · rw [h2]
    have q := h.1 i old e2 hc
    simp only [upd, hk, if_false]
    split
    · rename_i hj; rw [hj, q] at e; cases e
    · exact e
  · rw [h2]; simp [upd, hk, e]
  · rw [h2]; exact e
theorem store_one {L : Array Slot} (hW : WF L) {i : Nat} (hi : i < L.size) {v : Value} (hv : v.category ≠ 2) :
    ∃ L', storeLocals L i v = some L' ∧ L'.size = L.size ∧ WF L' ∧ (fun k => L'[k]?) = upd (clearF (fun k => L[k]?) i) i (.val v) := by
  obtain ⟨L1, h1, h2, h3⟩ := clear_ok hW hi v
  have hne : (fun k => L[k]?) i ≠ none := by simp; omega
  have hi1 : i < L1.size := by omega
  refine ⟨L1.setIfInBounds i (.val v), ?_, by simp [h2], ?_, ?_⟩
  · rw [h1, ss_eq, sa_eq hi1, Option.bind_some, if_neg hv]
  · have q : (fun k => (L1.setIfInBounds i (.val v))[k]?) = upd (clearF (fun k => L[k]?) i) i (.val v) := by
      rw [gset _ hi1, ← upd_upd _ i .unset, h3, upd_upd]
    have w : WFf (fun k => (L1.setIfInBounds i (.val v))[k]?) := by
      rw [q]; exact wff_one (wff_clear hW i) (clearF_at hne) hv
    exact w
  · rw [gset _ hi1, ← upd_upd _ i .unset, h3, upd_upd]
theorem store_two {L : Array Slot} (hW : WF L) {i : Nat} (hi : i + 1 < L.size) {v : Value} (hv : v.category = 2) :
    ∃ L', storeLocals L i v = some L' ∧ L'.size = L.size ∧ WF L' ∧ (fun k => L'[k]?) = upd (upd (clearF (clearF (fun k => L[k]?) i) (i + 1)) i (.val v)) (i + 1) .second := by
  obtain ⟨L1, h1, h2, h3⟩ := clear_ok hW (show i < L.size by omega) v
  have hne : (fun k => L[k]?) i ≠ none := by simp; omega
  have hi1 : i < L1.size := by omega
  have hi2 : i + 1 < L1.size := by omega
  rw [clearF_self hne] at h3
  have hWc := wff_clear (f := fun k => L[k]?) hW i
  generalize hF : clearF (fun k => L[k]?) i = F at *
  have hFi : F i = some .unset := by rw [← hF]; exact clearF_at hne
  have g1 : (fun k => (L1.setIfInBounds i (.val v))[k]?) = upd F i (.val v) := by rw [gset _ hi1, ← upd_upd _ i .unset, h3]
  have g2 : (L1.setIfInBounds i (.val v))[i + 1]? = F (i + 1) := by
    have := congrFun g1 (i + 1); simpa [upd] using this
  have hFi1 : F (i + 1) ≠ none := by
    have : (L1.setIfInBounds i (.val v))[i + 1]? ≠ none := by simp; omega
    rw [g2] at this; exact this
  have hns : F (i + 1) ≠ some .second := fun q => by
    obtain ⟨w, hw, -⟩ := hWc.2.1 i q
    rw [hFi] at hw; cases hw
  have key : ∀ G : Nat → Option Slot, WFf G → G i = some .unset → G (i + 1) = some .unset → G = clearF F (i + 1) → WFf (upd (upd (clearF F (i + 1)) i (.val v)) (i + 1) .second) := fun G hG a b e => by rw [← e]; exact wff_two hG a b hv
  have hcl := wff_clear hWc (i + 1)
  have hcli : clearF F (i + 1) i = some .unset := by
    rcases clearF_cases F (i + 1) with ⟨q, h2⟩ | ⟨old, q, hc, h2⟩ | ⟨old, q, hc, h2⟩ | ⟨-, h2⟩
    · exact absurd q hns
    · rw [h2]; simp [upd, hFi]
    · rw [h2]; simp [upd, hFi]
    · rw [h2]; exact hFi
  have hWF := wff_two hcl hcli (clearF_at hFi1) hv
  rw [h1, ss_eq, sa_eq hi1, Option.bind_some, if_pos hv, g2]
  cases hx : F (i + 1) with
  | none => exact absurd hx hFi1
  | some sl =>
    cases sl with
    | second => exact absurd hx hns
    | unset =>
      have e1 : clearF F (i + 1) = F := by simp only [clearF, hx]
      have e3 : (fun k => ((L1.setIfInBounds i (.val v)).setIfInBounds (i + 1) .second)[k]?) = upd (upd (clearF F (i + 1)) i (.val v)) (i + 1) .second := by
        rw [gset _ (by simpa using hi2), g1, e1]
      refine ⟨(L1.setIfInBounds i (.val v)).setIfInBounds (i + 1) .second, ?_, by simp [h2], ?_, e3⟩
      · show setAt _ (i + 1) .second = _
        rw [sa_eq (by simpa using hi2)]
      · have w : WFf (fun k => ((L1.setIfInBounds i (.val v)).setIfInBounds (i + 1) .second)[k]?) := by rw [e3]; exact hWF
        exact w
    | val old =>
      by_cases hc : old.category = 2
      · have q := hWc.1 _ _ hx hc
        have hi3 : i + 2 < L1.size := by
          have q2 : (L1.setIfInBounds i (.val v))[i + 2]? = some .second := by
            have := congrFun g1 (i + 2); simpa [upd, q] using this
          have := (Array.getElem?_eq_some_iff.mp q2).1
          simpa using this
        have e1 : clearF F (i + 1) = upd (upd F (i + 2) .unset) (i + 1) .unset := by simp only [clearF, hx, hc, if_true]
        have e3 : (fun k => (((L1.setIfInBounds i (.val v)).setIfInBounds (i + 2) .unset).setIfInBounds (i + 1) .second)[k]?) = upd (upd (clearF F (i + 1)) i (.val v)) (i + 1) .second := by
          rw [gset _ (by simpa using hi2), gset _ (by simpa using hi3), g1, e1]
          funext k; simp only [upd]
          by_cases a : k = i + 1
          · simp [a]
          · by_cases b : k = i
            · simp [b]
            · simp [a, b]
        refine ⟨((L1.setIfInBounds i (.val v)).setIfInBounds (i + 2) .unset).setIfInBounds (i + 1) .second, ?_, by simp [h2], ?_, e3⟩
        · show (if old.category = 2 then _ else _) = _
          rw [if_pos hc, sa_eq (by simpa using hi3), Option.bind_some, sa_eq (by simpa using hi2)]
        · have w : WFf (fun k => (((L1.setIfInBounds i (.val v)).setIfInBounds (i + 2) .unset).setIfInBounds (i + 1) .second)[k]?) := by rw [e3]; exact hWF
          exact w
      · have e1 : clearF F (i + 1) = upd F (i + 1) .unset := by simp only [clearF, hx, hc, if_false]
        have e3 : (fun k => ((L1.setIfInBounds i (.val v)).setIfInBounds (i + 1) .second)[k]?) = upd (upd (clearF F (i + 1)) i (.val v)) (i + 1) .second := by
          rw [gset _ (by simpa using hi2), g1, e1]
          funext k; simp only [upd]
          by_cases a : k = i + 1
          · simp [a]
          · by_cases b : k = i
            · simp [b]
            · simp [a, b]
        refine ⟨(L1.setIfInBounds i (.val v)).setIfInBounds (i + 1) .second, ?_, by simp [h2], ?_, e3⟩
        · show (if old.category = 2 then _ else _) = _
          rw [if_neg hc, sa_eq (by simpa using hi2)]
        · have w : WFf (fun k => ((L1.setIfInBounds i (.val v)).setIfInBounds (i + 1) .second)[k]?) := by rw [e3]; exact hWF
          exact w
theorem cat_va (ρ : Nat → Nat) (v : Value) : (va ρ v).category = v.category := by cases v <;> rfl
theorem clr_len (ls : Lv) (i : Nat) : (clr ls i).length = ls.length := by
  cases i with
  | zero => rfl
  | succ j => simp only [clr]; split <;> simp
theorem clr_get {ls : Lv} {i k : Nat} {v : Value} (h : (clr ls i)[k]? = some (some v)) : ls[k]? = some (some v) ∧ (k + 1 = i → v.category ≠ 2) := by
  cases i with
  | zero => exact ⟨h, fun q => by omega⟩
  | succ j =>
    simp only [clr] at h
    split at h
    · rename_i x e
      rw [List.getElem?_set] at h
      split at h
      · rename_i hj; subst hj; split at h <;> simp at h
      · rename_i hj; exact ⟨h, fun q => by omega⟩
    · rename_i x e
      rw [List.getElem?_set] at h
      split at h
      · rename_i hj; subst hj; split at h <;> simp at h
      · rename_i hj; exact ⟨h, fun q => by omega⟩
    · rename_i e1 e2
      refine ⟨h, fun q hc => ?_⟩
      have hk : k = j := by omega
      subst hk
      cases v <;> first | exact e1 _ h | exact e2 _ h | (exact Nat.noConfusion (Nat.succ.inj hc))
theorem store_ok {ρ : Nat → Nat} {ls ls' : Lv} {L : Array Slot} {i : Nat} {v : Value} (hL : LR ρ ls L) (hd : ∀ x, v ≠ .double x) (h : stl ls i v = some ls') : ∃ L', storeLocals L i (va ρ v) = some L' ∧ LR ρ ls' L' ∧ L'.size = L.size := by
  obtain ⟨hz, hr, hW⟩ := hL
  have hWf : WFf (fun k => L[k]?) := hW
  by_cases hc : v.category = 2
  · obtain ⟨x, rfl⟩ : ∃ x, v = .long x := by cases v <;> simp [Value.category] at hc <;> first | exact ⟨_, rfl⟩ | exact absurd rfl (hd _)
    simp only [stl] at h
    split at h
    · rename_i hi
      cases h
      obtain ⟨L', a1, a2, a3, a4⟩ := store_two hW (show i + 1 < L.size by omega) (v := va ρ (.long x)) rfl
      refine ⟨L', a1, ⟨by simp [a2, hz, clr_len], fun k w hk => ?_, a3⟩, a2⟩
      have q : L'[k]? = _ := congrFun a4 k
      rw [q]
      rw [List.getElem?_set] at hk
      split at hk
      · simp at hk
      · rename_i hk1
        rw [List.getElem?_set] at hk
        split at hk
        · rename_i hk2; subst hk2
          simp only [clr_len] at hk
          split at hk
          · cases hk; simp [upd]
          · simp at hk
        · rename_i hk2
          obtain ⟨b1, b2⟩ := clr_get hk
          have b3 := hr _ _ b1
          have b4 : clearF (fun k => L[k]?) i k = some (.val (va ρ w)) := clearF_keep hWf (fun q => hk2 q.symm) b3 (fun q => by rw [cat_va]; exact b2 q)
          have b5 := clearF_keep (wff_clear hWf i) (i := i + 1) (fun q => hk1 q.symm) b4 (fun q => absurd (Nat.succ.inj q) fun z => hk2 z.symm)
          simp only [upd, show ¬ k = i + 1 from fun q => hk1 q.symm, show ¬ k = i from fun q => hk2 q.symm, if_false]
          exact b5
    · cases h
  · have hs : stl ls i v = if i < ls.length then some ((clr ls i).set i (some v)) else none := by cases v <;> first | rfl | exact absurd rfl hc
    rw [hs] at h
    split at h
    · rename_i hi
      cases h
      obtain ⟨L', a1, a2, a3, a4⟩ := store_one hW (show i < L.size by omega) (v := va ρ v) (by rw [cat_va]; exact hc)
      refine ⟨L', a1, ⟨by simp [a2, hz, clr_len], fun k w hk => ?_, a3⟩, a2⟩
      have q : L'[k]? = _ := congrFun a4 k
      rw [q]
      rw [List.getElem?_set] at hk
      split at hk
      · rename_i hk2; subst hk2
        simp only [clr_len] at hk
        split at hk
        · cases hk; simp [upd]
        · omega
      · rename_i hk2
        obtain ⟨b1, b2⟩ := clr_get hk
        have b3 := hr _ _ b1
        have b4 : clearF (fun k => L[k]?) i k = some (.val (va ρ w)) := clearF_keep hWf (fun q => hk2 q.symm) b3 (fun q => by rw [cat_va]; exact b2 q)
        simp only [upd, show ¬ k = i from fun q => hk2 q.symm, if_false]
        exact b4
    · cases h
end Jvm.LM

namespace Jvm.LM
open Sem ClassFile Op Lib Jvm.Stand Jvm.Free Jvm.LawKit Jvm.RoadKit
section Pure
variable {p : Program} {l : Launch} {e : Env} {R : Room} {s : State} {m : MethodId} {args : Array Value} {below : List Frame} {meth : Method} {c : Code} {T : State} {locs : List Loc} {cells slots : Nat}
theorem br_eq (cd : ClassFile.Cond) (x y : Int32) (a b : Nat) : br cd x y a b = if if_icmp.holds cd x y = true then a else b := by
  cases cd <;> simp only [br]
  · by_cases h : x = y <;> simp [h, XT.ii_eq_t, XT.ii_eq_f]
  · by_cases h : x = y
    · rw [if_pos h, XT.ii_ne_f h]; rfl
    · rw [if_neg h, XT.ii_ne_t h]; rfl
  · by_cases h : x < y
    · rw [if_pos h, XT.ii_lt_t h]; rfl
    · rw [if_neg h, XT.ii_lt_f h]; rfl
  · by_cases h : x < y
    · rw [if_pos h, XT.ii_ge_f h]; rfl
    · rw [if_neg h, XT.ii_ge_t h]; rfl
  · by_cases h : y < x
    · rw [if_pos h, XT.ii_gt_t h]; rfl
    · rw [if_neg h, XT.ii_gt_f h]; rfl
  · by_cases h : y < x
    · rw [if_pos h, XT.ii_le_f h]; rfl
    · rw [if_neg h, XT.ii_le_t h]; rfl
theorem qstep_sound (X : Stand p l e R s m args below meth c T locs cells slots) (hx : p.tables.exec = Jvm.exec) {ρ : Nat → Nat} {i : Instr} {n pc pc' : Nat} {st st' : List Value}
    (h : qstep i pc st = some (pc', st')) (hd : decode c.code pc = .ok (i, n)) (hn : isSw i = true ∨ n = ilen i) {L : Array Slot} :
    ∀ target, Steps p.tables e below (T.setTop (mkF m pc' L (st'.map (va ρ)))) target → Steps p.tables e below (T.setTop (mkF m pc L (st.map (va ρ)))) target := by
  by_cases hsw : isSw i = true
  · cases i <;> first | exact absurd hsw Bool.false_ne_true | skip
    rename_i d lo hi offs
    simp only [qstep] at h
    split at h
    · rename_i x r
      split at h
      · rename_i e1
        split at h
        · rename_i e2; cases h; exact fun t q => X.tableswitchOut hx (g := mkF m pc L (.int x :: List.map (va ρ) _)) rfl rfl hd e1 e2 t q
        · cases h
      · rename_i e1
        split at h
        · rename_i o e2
          split at h
          · rename_i e3; cases h; exact fun t q => X.tableswitchIn hx (g := mkF m pc L (.int x :: List.map (va ρ) _)) rfl rfl hd e1 e2 e3 t q
          · cases h
        · cases h
    · cases h
  obtain rfl := hn.resolve_left hsw
  unfold qstep at h
  split at h
  -- constants
  · cases h; exact fun t q => XS.iconst X.here hx rfl hd q
  · cases h; exact fun t q => XS.bipush X.here hx rfl hd q
  · cases h; exact fun t q => XS.sipush X.here hx rfl hd q
  · cases h; exact fun t q => XT.lconst X.here hx rfl hd q
  -- ints
  · split at h
    · cases h; exact fun t q => XS.iadd X.here hx rfl hd rfl q
    · cases h
  · split at h
    · cases h; exact fun t q => XS.isub X.here hx rfl hd rfl q
    · cases h
  · split at h
    · cases h; exact fun t q => XS.imul X.here hx rfl hd rfl q
    · cases h
  · split at h
    · cases h; exact fun t q => XS.iand X.here hx rfl hd rfl q
    · cases h
  · split at h
    · cases h; exact fun t q => XT.ior X.here hx rfl hd rfl q
    · cases h
  · split at h
    · cases h; exact fun t q => XT.ixor X.here hx rfl hd rfl q
    · cases h
  · split at h
    · cases h; exact fun t q => XT.ishl X.here hx rfl hd rfl q
    · cases h
  · split at h
    · cases h; exact fun t q => XT.ishr X.here hx rfl hd rfl q
    · cases h
  · split at h
    · cases h; exact fun t q => XT.iushr X.here hx rfl hd rfl q
    · cases h
  · split at h
    · split at h
      · cases h
      · rename_i e1; cases h; exact fun t q => XS.idiv X.here hx rfl hd rfl e1 q
    · cases h
  · split at h
    · split at h
      · cases h
      · rename_i e1; cases h; exact fun t q => iremM X hx rfl hd rfl e1 q
    · cases h
  · split at h
    · cases h; exact fun t q => XS.ineg X.here hx rfl hd rfl q
    · cases h
  -- longs
  · split at h
    · cases h; exact fun t q => XT.ladd X.here hx rfl hd rfl q
    · cases h
  · split at h
    · cases h; exact fun t q => XT.lsub X.here hx rfl hd rfl q
    · cases h
  · split at h
    · cases h; exact fun t q => XT.lmul X.here hx rfl hd rfl q
    · cases h
  · split at h
    · cases h; exact fun t q => XT.land X.here hx rfl hd rfl q
    · cases h
  · split at h
    · cases h; exact fun t q => XT.lor X.here hx rfl hd rfl q
    · cases h
  · split at h
    · cases h; exact fun t q => XT.lxor X.here hx rfl hd rfl q
    · cases h
  · split at h
    · cases h; exact fun t q => XT.lshl X.here hx rfl hd rfl q
    · cases h
  · split at h
    · cases h; exact fun t q => XT.lshr X.here hx rfl hd rfl q
    · cases h
  · split at h
    · cases h; exact fun t q => XT.lushr X.here hx rfl hd rfl q
    · cases h
  · split at h
    · split at h
      · cases h
      · rename_i e1; cases h; exact fun t q => XT.ldiv X.here hx rfl hd rfl e1 q
    · cases h
  · split at h
    · cases h; exact fun t q => XT.lneg X.here hx rfl hd rfl q
    · cases h
  · split at h
    · cases h; exact fun t q => XT.lcmp X.here hx rfl hd rfl q
    · cases h
  · split at h
    · cases h; exact fun t q => XT.i2l X.here hx rfl hd rfl q
    · cases h
  · split at h
    · cases h; exact fun t q => XT.l2i X.here hx rfl hd rfl q
    · cases h
  -- dup, pop
  · split at h
    · cases h; exact fun t q => XS.dup X.here hx rfl hd rfl rfl q
    · cases h; exact fun t q => XS.dup X.here hx rfl hd rfl rfl q
    · cases h
  · split at h
    · cases h; exact fun t q => XT.pop X.here hx rfl hd rfl rfl q
    · cases h; exact fun t q => XT.pop X.here hx rfl hd rfl rfl q
    · cases h
  -- jumps
  · split at h
    · rename_i e1; cases h; exact fun t q => XS.goto X.here hx rfl rfl hd e1 rfl q
    · cases h
  · split at h
    · split at h
      · rename_i e1; cases h
        intro t q
        rw [br_eq] at q
        split at q
        · rename_i e2; exact XS.ifYes X.here hx rfl rfl hd rfl (by rw [if0]; exact e2) e1 rfl q
        · rename_i e2; exact XS.ifNo X.here hx rfl hd rfl (by rw [if0]; simpa using e2) q
      · cases h
    · cases h
  · split at h
    · split at h
      · rename_i e1; cases h
        intro t q
        rw [br_eq] at q
        split at q
        · rename_i e2; exact XS.icmpYes X.here hx rfl rfl hd rfl e2 e1 rfl q
        · rename_i e2; exact XS.icmpNo X.here hx rfl hd rfl (by simpa using e2) q
      · cases h
    · cases h
  · exact absurd rfl hsw
  · cases h
theorem pstep_sound (X : Stand p l e R s m args below meth c T locs cells slots) (hx : p.tables.exec = Jvm.exec) {ρ : Nat → Nat} {i : Instr} {n pc pc' : Nat} {ls ls' : Lv} {st st' : List Value}
    (h : pstep i pc ls st = some (pc', ls', st')) (hd : decode c.code pc = .ok (i, n)) (hn : isSw i = true ∨ n = ilen i) {L : Array Slot} (hL : LR ρ ls L) :
    ∃ L', LR ρ ls' L' ∧ L'.size = L.size ∧ ∀ target, Steps p.tables e below (T.setTop (mkF m pc' L' (st'.map (va ρ)))) target → Steps p.tables e below (T.setTop (mkF m pc L (st.map (va ρ)))) target := by
  by_cases hsw : isSw i = true
  · cases i <;> first | exact absurd hsw Bool.false_ne_true | skip
    simp only [pstep] at h
    split at h
    · rename_i e1; cases h; exact ⟨L, hL, rfl, qstep_sound X hx e1 hd hn⟩
    · cases h
  obtain rfl := hn.resolve_left hsw
  unfold pstep at h
  split at h
  -- loads
  · split at h
    · rename_i e1; cases h; exact ⟨L, hL, rfl, fun t q => XS.iloadN X.here hx rfl hd (hL.2.1 _ _ e1) q⟩
    · cases h
  · split at h
    · rename_i e1; cases h; exact ⟨L, hL, rfl, fun t q => XS.iload X.here hx rfl hd (hL.2.1 _ _ e1) q⟩
    · cases h
  · split at h
    · rename_i e1; cases h; exact ⟨L, hL, rfl, fun t q => XT.lloadN X.here hx rfl hd (hL.2.1 _ _ e1) q⟩
    · cases h
  · split at h
    · rename_i e1; cases h; exact ⟨L, hL, rfl, fun t q => XT.lload X.here hx rfl hd (hL.2.1 _ _ e1) q⟩
    · cases h
  · split at h
    · rename_i e1; cases h; exact ⟨L, hL, rfl, fun t q => XS.aloadN X.here hx rfl hd (hL.2.1 _ _ e1) rfl q⟩
    · cases h
  · split at h
    · rename_i e1; cases h; exact ⟨L, hL, rfl, fun t q => XS.aload X.here hx rfl hd (hL.2.1 _ _ e1) rfl q⟩
    · cases h
  -- stores
  · split at h
    · split at h
      · rename_i e1; cases h
        obtain ⟨L', a1, a2, a3⟩ := store_ok hL (fun x => by simp) e1
        exact ⟨L', a2, a3, fun t q => XS.istoreN X.here hx rfl hd rfl a1 q⟩
      · cases h
    · cases h
  · split at h
    · split at h
      · rename_i e1; cases h
        obtain ⟨L', a1, a2, a3⟩ := store_ok hL (fun x => by simp) e1
        exact ⟨L', a2, a3, fun t q => XS.istore X.here hx rfl hd rfl a1 q⟩
      · cases h
    · cases h
  · split at h
    · split at h
      · rename_i e1; cases h
        obtain ⟨L', a1, a2, a3⟩ := store_ok hL (fun x => by simp) e1
        exact ⟨L', a2, a3, fun t q => XT.lstoreN X.here hx rfl hd rfl a1 q⟩
      · cases h
    · cases h
  · split at h
    · split at h
      · rename_i e1; cases h
        obtain ⟨L', a1, a2, a3⟩ := store_ok hL (fun x => by simp) e1
        exact ⟨L', a2, a3, fun t q => XT.lstore X.here hx rfl hd rfl a1 q⟩
      · cases h
    · cases h
  · split at h
    · split at h
      · rename_i e1; cases h
        obtain ⟨L', a1, a2, a3⟩ := store_ok hL (fun x => by simp) e1
        exact ⟨L', a2, a3, fun t q => XS.astoreN X.here hx rfl hd rfl rfl a1 q⟩
      · cases h
    · cases h
  · split at h
    · split at h
      · rename_i e1; cases h
        obtain ⟨L', a1, a2, a3⟩ := store_ok hL (fun x => by simp) e1
        exact ⟨L', a2, a3, fun t q => XS.astore X.here hx rfl hd rfl rfl a1 q⟩
      · cases h
    · cases h
  · split at h
    · rename_i e0
      split at h
      · rename_i e1; cases h
        obtain ⟨L', a1, a2, a3⟩ := store_ok hL (fun x => by simp) e1
        exact ⟨L', a2, a3, fun t q => XS.iinc X.here hx rfl hd (hL.2.1 _ _ e0) a1 q⟩
      · cases h
    · cases h
  · rename_i hq
    split at h
    · rename_i e1; cases h; exact ⟨L, hL, rfl, qstep_sound X hx e1 hd hn⟩
    · cases h
end Pure
/-! the class's own machine -/
def nd : List Value → Bool
  | [] => true
  | .double _ :: _ => false
  | _ :: r => nd r
theorem nd_spec {as : List Value} (h : nd as = true) : ∀ v ∈ as, ∀ x, v ≠ .double x := by
  induction as with
  | nil => intro v hv; cases hv
  | cons w r ih =>
    intro v hv x e
    rcases List.mem_cons.mp hv with q | q
    · subst q; subst e; cases h
    · refine ih ?_ v q x e
      cases w <;> first | exact h | cases h
def layA : List Value → Lv
  | [] => []
  | .long x :: r => some (.long x) :: none :: layA r
  | v :: r => some v :: layA r
def lay (as : List Value) (n : Nat) : Lv := layA as ++ List.replicate (n - (layA as).length) none
def cats (st : List Value) : Nat := (st.map fun v => v.category).sum
def tyOf : Nat → FieldType
  | 0 => .int
  | 1 => .boolean
  | _ => .long
def atOf : Nat → ArrayType
  | 0 => .int
  | 1 => .boolean
  | _ => .long
def retOf : Nat → Option FieldType
  | 0 => none
  | 1 => some .int
  | 2 => some .boolean
  | _ => some .long
def zs (al : List (Nat × Nat)) (c : Nat) : Nat := ((al.take c).map (·.2)).sum
abbrev Rs := Option (Option Value × St)
def cret (me : Me) (st : List Value) (i : Instr) : Option (Option Value) :=
  match i with
  | .ireturn => match st with
    | [.int x] => if me.rt = 1 then some (some (.int x)) else if me.rt = 2 then some (some (.int (x &&& 1))) else none
    | _ => none
  | .lreturn => match st with
    | [.long x] => if me.rt = 3 then some (some (.long x)) else none
    | _ => none
  | .return_ => match st with
    | [] => if me.rt = 0 then some none else none
    | _ => none
  | _ => none
def isRet : Instr → Bool
  | .ireturn => true
  | .lreturn => true
  | .return_ => true
  | _ => false
def gfld (P : Cl) (x : Nat) (c : Nat) (s : St) : Option Value :=
  match asc P.fx x with
  | none => none
  | some k => match asc P.fs k with
    | none => none
    | some fe => match fe.2.2.1 with
      | 0 => some (.int (gI s 0 k))
      | 1 => some (.int (gI s 0 k))
      | 2 => some (.long (gL s 0 k))
      | j + 3 => if j < c then some (.ref (j + 1)) else none
def pfld (P : Cl) (x : Nat) (ini : Bool) (v : Value) (s : St) : Option St :=
  match asc P.fx x with
  | none => none
  | some k => match asc P.fs k with
    | none => none
    | some fe => if fe.2.2.2 = true ∧ ini = false then none else
      match fe.2.2.1, v with
      | 0, .int z => some (sI s 0 k z)
      | 1, .int z => some (sI s 0 k (z &&& 1))
      | 2, .long z => some (sL s 0 k z)
      | _, _ => none
def newF (P : Cl) (t : ArrayType) (cd : Cd) (pc c : Nat) (st : List Value) : Bool :=
  match st with
  | [.int n, .ref 0] => match fetch cd (pc + 2) with
    | some (.putfield x, 3) => match asc P.fx x with
      | some k => match asc P.fs k with
        | some fe => match P.al[c]? with
          | some (tt, N) => decide (fe.2.2.1 = c + 3 ∧ t = atOf tt ∧ 0 ≤ n.toInt ∧ n.toInt = N ∧ N < 1000000)
          | none => false
        | none => false
      | none => false
    | _ => false
  | _ => false
def lda (P : Cl) (tt c : Nat) (st : List Value) (s : St) : Option (List Value) :=
  match st with
  | .int i :: .ref (a + 1) :: r => match P.al[a]? with
    | some (t2, N) => if t2 = tt ∧ a < c then (if inb N i then some ((if tt = 2 then .long (gL s (a + 1) (ix i)) else .int (gI s (a + 1) (ix i))) :: r) else none) else none
    | none => none
  | _ => none
def sta (P : Cl) (tt c : Nat) (st : List Value) (s : St) : Option (List Value × St) :=
  match st with
  | v :: .int i :: .ref (a + 1) :: r => match P.al[a]? with
    | some (t2, N) => if t2 = tt ∧ a < c then (if inb N i then (match tt, v with
        | 0, .int z => some (r, sI s (a + 1) (ix i) z)
        | 1, .int z => some (r, sI s (a + 1) (ix i) (z &&& 1))
        | 2, .long z => some (r, sL s (a + 1) (ix i) z)
        | _, _ => none) else none) else none
    | none => none
  | _ => none
def cstep {α : Type} (P : Cl) (mi : Nat) (me : Me) (rt : Option Value → St → Option α) (cl : Nat → Nat → List Value → St → Rs) (k : Nat → Nat → Lv → List Value → St → Option α) (i : Instr) (c pc : Nat) (ls : Lv) (st : List Value) (s : St) : Option α :=
  match i with
  | .getfield x => match st with
    | .ref 0 :: r => (match gfld P x c s with | some v => k c (pc + 3) ls (v :: r) s | none => none)
    | _ => none
  | .putfield x => match st with
    | v :: .ref 0 :: r => (match pfld P x (mi == 0) v s with | some s' => k c (pc + 3) ls r s' | none => none)
    | _ => none
  | .iaload => match lda P 0 c st s with | some st' => k c (pc + 1) ls st' s | none => none
  | .baload => match lda P 1 c st s with | some st' => k c (pc + 1) ls st' s | none => none
  | .laload => match lda P 2 c st s with | some st' => k c (pc + 1) ls st' s | none => none
  | .iastore => match sta P 0 c st s with | some (st', s') => k c (pc + 1) ls st' s' | none => none
  | .bastore => match sta P 1 c st s with | some (st', s') => k c (pc + 1) ls st' s' | none => none
  | .lastore => match sta P 2 c st s with | some (st', s') => k c (pc + 1) ls st' s' | none => none
  | .newarray t => if mi = 0 ∧ newF P t me.cd pc c st = true then k (c + 1) (pc + 5) ls [] s else none
  | .ldc x => match asc P.kx x with | some (.int z) => k c (pc + 2) ls (.int z :: st) s | _ => none
  | .ldc2_w x => match asc P.kx x with | some (.long z) => k c (pc + 3) ls (.long z :: st) s | _ => none
  | .invokespecial x => match st with
    | .ref 0 :: r => if x = P.oi ∧ 1 ≤ me.rf ∧ cats r + 12 ≤ me.rl then k c (pc + 3) ls r s else none
    | _ => none
  | .invokevirtual x => match asc P.mx x with
    | none => none
    | some m' => match asc P.ms m' with
      | none => none
      | some me' => match st.drop me'.na with
        | .ref 0 :: r => if m' ≠ 0 ∧ me'.rf + 1 ≤ me.rf ∧ cats r + (me'.ml + 11) + me'.rl ≤ me.rl ∧ nd (st.take me'.na) = true then
            (match cl m' c (.ref 0 :: (st.take me'.na).reverse) s with
             | some (none, s') => k c (pc + 3) ls r s'
             | some (some v, s') => k c (pc + 3) ls (v :: r) s'
             | none => none) else none
        | _ => none
  | i => if isRet i = true then (if mi = 0 ∧ c ≠ P.al.length then none else match cret me st i with | some v => rt v s | none => none)
    else match pstep i pc ls st with | some (pc', ls', st') => k c pc' ls' st' s | none => none
def cexec (P : Cl) : Nat → Nat → Me → Nat → Nat → Lv → List Value → St → Rs
  | 0, _, _, _, _, _, _, _ => none
  | f + 1, mi, me, c, pc, ls, st, s => match fetch me.cd pc with
    | none => none
    | some (i, _) => cstep P mi me (fun v s => some (v, s)) (fun m' c as s => match asc P.ms m' with | some me' => (if (layA as).length ≤ me'.ml then cexec P f m' me' c 0 (lay as me'.ml) [] s else none) | none => none) (cexec P f mi me) i c pc ls st s
def ccall (P : Cl) (f m' c : Nat) (as : List Value) (s : St) : Rs := match asc P.ms m' with | some me' => (if (layA as).length ≤ me'.ml then cexec P f m' me' c 0 (lay as me'.ml) [] s else none) | none => none
end Jvm.LM

namespace Jvm.LM
open Sem ClassFile Op Lib Jvm.Stand Jvm.Free Jvm.LawKit Jvm.RoadKit
/-! how the machine's state stands in the heap -/
theorem adr_ne (a j : Nat) : a + (j + 1) ≠ a := by omega
theorem adr_ne' (a j : Nat) : a ≠ a + (j + 1) := by omega
theorem adr_ne2 (a : Nat) {j k : Nat} (h : j ≠ k) : a + (j + 1) ≠ a + (k + 1) := by omega
def Fval (adr c : Nat) (s : St) (k : Nat) (fe : Fe) : Value :=
  match fe.2.2.1 with
  | 0 => .int (gI s 0 k)
  | 1 => .int (gI s 0 k)
  | 2 => .long (gL s 0 k)
  | j + 3 => if j < c then .ref (adr + (j + 1)) else .null
def elv (tt : Nat) (s : St) (j i : Nat) : Value := if tt = 2 then .long (gL s j i) else .int (gI s j i)
def ARep (Z : State) (h : Heap) (a tt N : Nat) (s : St) (j : Nat) : Prop :=
  ∃ cl : Cell, Arr Z h a cl (tyOf tt) ∧ cl.slots.size = N ∧ ∀ i, i < N → cl.slots[i]? = some (elv tt s j i)
def HRep (P : Cl) (Z : State) (h : Heap) (adr c : Nat) (s : St) : Prop :=
  Exa Z h adr P.nm ∧ (∀ k fe, asc P.fs k = some fe → Fld Z h adr P.nm fe.1 fe.2.1 (Fval adr c s k fe)) ∧
  (∀ (j tt N : Nat), P.al[j]? = some (tt, N) → j < c → ARep Z h (adr + (j + 1)) tt N s (j + 1)) ∧
  (∀ j i, c < j → gI s j i = 0 ∧ gL s j i = 0) ∧ c ≤ P.al.length
def fkTy (P : Cl) : Nat → FieldType
  | 0 => .int
  | 1 => .boolean
  | 2 => .long
  | j + 3 => .array (tyOf ((P.al[j]?.map (·.1)).getD 0))
def yOf (P : Cl) (me : Me) : MethodName := ⟨P.nm, me.nm, me.ds⟩
def LinkC (P : Cl) (Z : State) (a0 : Array Value) : Prop :=
  ((∃ nF, (Cond.instantiable P.nm nF).before a0 Z = true) ∧ (Cond.initialized P.nm).before a0 Z = true) ∧
  (∀ x k, asc P.fx x = some k → ∀ fe, asc P.fs k = some fe → (Cond.fieldLink P.nm x P.nm fe.1 fe.2.1).before a0 Z = true) ∧
  (∀ k fe, asc P.fs k = some fe → (if fe.2.2.2 = true then Cond.laysFinal P.nm P.nm fe.1 fe.2.1 else Cond.lays P.nm P.nm fe.1 fe.2.1).before a0 Z = true) ∧
  (∀ k fe, asc P.fs k = some fe → parseFieldDescriptor fe.2.1 = some (fkTy P fe.2.2.1)) ∧
  (∀ k k' fe fe', asc P.fs k = some fe → asc P.fs k' = some fe' → k ≠ k' → fe.1 ≠ fe'.1 ∧ (3 ≤ fe.2.2.1 → fe.2.2.1 ≠ fe'.2.2.1)) ∧
  (∀ (j tt N : Nat), P.al[j]? = some (tt, N) → tt ≤ 2 ∧ (Cond.arrayClass (tyOf tt)).before a0 Z = true) ∧
  (∀ x v, asc P.kx x = some v → match v with
    | .int z => (Cond.constant P.nm x z).before a0 Z = true
    | .long z => (Cond.constantLong P.nm x z).before a0 Z = true
    | _ => True) ∧
  ((Cond.methodLink P.nm P.oi Lib.objectInit).before a0 Z = true ∧ (Cond.instanceMethod Lib.objectInit).before a0 Z = true ∧ (Cond.code Lib.objectInit ⟨#[0xb1]⟩ 1 none).before a0 Z = true) ∧
  (∀ mi me, asc P.ms mi = some me → ∃ (bytes : ByteArray) (ps : List FieldType), (Cond.code (yOf P me) bytes me.ml (retOf me.rt)).before a0 Z = true ∧
    (∀ pc i n, fetch me.cd pc = some (i, n) → decode bytes pc = .ok (i, n) ∧ (isSw i = true ∨ n = ilen i)) ∧ parseMethodDescriptor me.ds = some ⟨ps, retOf me.rt⟩ ∧ ps.length = me.na) ∧
  (∀ x mi, asc P.mx x = some mi → ∀ me, asc P.ms mi = some me → (Cond.methodLink P.nm x (yOf P me)).before a0 Z = true ∧ (Cond.instanceMethod (yOf P me)).before a0 Z = true ∧
    ((Cond.privateMethod (yOf P me)).before a0 Z = true ∨ ((Cond.declares (yOf P me)).before a0 Z = true ∧ (Cond.selects P.nm (yOf P me) (yOf P me)).before a0 Z = true))) ∧
  plainName P.nm = true ∧ (P.nm ≠ "java/lang/invoke/MethodHandle" ∧ P.nm ≠ "java/lang/invoke/VarHandle") ∧ (∀ me, asc P.ms 0 = some me → me.nm = "<init>")
theorem gI_sI (s : St) (c j : Nat) (v : Int32) (a b : Nat) : gI (sI s c j v) a b = if a = c ∧ b = j then v else gI s a b := rfl
theorem gL_sI (s : St) (c j : Nat) (v : Int32) (a b : Nat) : gL (sI s c j v) a b = gL s a b := rfl
theorem gI_sL (s : St) (c j : Nat) (v : Int64) (a b : Nat) : gI (sL s c j v) a b = gI s a b := rfl
theorem gL_sL (s : St) (c j : Nat) (v : Int64) (a b : Nat) : gL (sL s c j v) a b = if a = c ∧ b = j then v else gL s a b := rfl
theorem laid_of {P : Cl} {Z : State} {a0 : Array Value} (LK : LinkC P Z a0) {k : Nat} {fe : Fe} (hk : asc P.fs k = some fe) : Laid Z a0 P.nm P.nm fe.1 fe.2.1 := by
  have q := LK.2.2.1 k fe hk
  split at q
  · exact Or.inr q
  · exact Or.inl q
/-- a heap that is alike where the object lies -/
theorem HRep.congr {P : Cl} {Z : State} {h h' : Heap} {adr c : Nat} {s : St} (H : HRep P Z h adr c s) (e : ∀ x, adr ≤ x → x < adr + 1 + P.al.length → h'[x]? = h[x]?) : HRep P Z h' adr c s := by
  obtain ⟨h1, h2, h3, h4, h5⟩ := H
  have ea : h'[adr]? = h[adr]? := e adr (Nat.le_refl _) (by omega)
  refine ⟨?_, fun k fe hk => ?_, fun j tt N hj hc => ?_, h4, h5⟩
  · obtain ⟨cell, k, q1, r⟩ := h1; exact ⟨cell, k, by rw [ea]; exact q1, r⟩
  · obtain ⟨cell, cf, k, i, f, q1, r⟩ := h2 k fe hk; exact ⟨cell, cf, k, i, f, by rw [ea]; exact q1, r⟩
  · obtain ⟨cl, ⟨q1, q2⟩, q3⟩ := h3 j tt N hj hc
    exact ⟨cl, ⟨by rw [e _ (by omega) (by omega)]; exact q1, q2⟩, q3⟩
theorem HRep.putFld {P : Cl} {Z : State} {a0 : Array Value} (LK : LinkC P Z a0) {h h' : Heap} {adr c k : Nat} {fe : Fe} {s s' : St} {v : Value} (H : HRep P Z h adr c s) (hk : asc P.fs k = some fe)
    (W : Wr h h' adr (RoadKit.slotOf Z P.nm fe.1 fe.2.1) v) (hv : v = Fval adr c s' k fe) (hI : ∀ a b, (a ≠ 0 ∨ b ≠ k) → gI s' a b = gI s a b ∧ gL s' a b = gL s a b) : HRep P Z h' adr c s' := by
  obtain ⟨h1, h2, h3, h4, h5⟩ := H
  refine ⟨h1.wr W, fun k2 fe2 hk2 => ?_, fun j tt N hj hc => ?_, fun j i hj => ?_, h5⟩
  · by_cases e : k2 = k
    · subst e; cases hk.symm.trans hk2
      rw [← hv]; exact (h2 _ _ hk).same W
    · have hne := (LK.2.2.2.2.1 _ _ _ _ hk2 hk e).1
      have q := (h2 _ _ hk2).other W (Or.inr (slot_ne (laid_of LK hk2) (laid_of LK hk) hne (LK.2.2.2.1 _ _ hk2) (LK.2.2.2.1 _ _ hk)))
      have e2 : Fval adr c s' k2 fe2 = Fval adr c s k2 fe2 := by
        have := hI 0 k2 (Or.inr e)
        simp only [Fval]; split <;> simp [this.1, this.2]
      rw [e2]; exact q
  · obtain ⟨cl, q1, q2, q3⟩ := h3 j tt N hj hc
    refine ⟨cl, q1.other W (adr_ne _ _), q2, fun i hi => ?_⟩
    have := hI (j + 1) i (Or.inl (by omega))
    rw [q3 i hi]; simp only [elv, this.1, this.2]
  · have := hI j i (Or.inl (by omega))
    rw [this.1, this.2]; exact h4 j i hj
theorem HRep.putArr {P : Cl} {Z : State} {h h' : Heap} {adr c a tt N n : Nat} {s s' : St} {v : Value} (H : HRep P Z h adr c s) (ha : P.al[a]? = some (tt, N)) (hac : a < c) (hn : n < N)
    (W : Wr h h' (adr + (a + 1)) n v) (hv : v = elv tt s' (a + 1) n) (hI : ∀ x y, (x ≠ a + 1 ∨ y ≠ n) → gI s' x y = gI s x y ∧ gL s' x y = gL s x y) : HRep P Z h' adr c s' := by
  obtain ⟨h1, h2, h3, h4, h5⟩ := H
  refine ⟨h1.wr W, fun k fe hk => ?_, fun j tt2 N2 hj hc => ?_, fun j i hj => ?_, h5⟩
  · have q := (h2 _ _ hk).other W (Or.inl (adr_ne' _ _))
    have e2 : Fval adr c s' k fe = Fval adr c s k fe := by
      have := hI 0 k (Or.inl (by omega))
      simp only [Fval]; split <;> simp [this.1, this.2]
    rw [e2]; exact q
  · obtain ⟨cl, q1, q2, q3⟩ := h3 j tt2 N2 hj hc
    by_cases e : j = a
    · subst e; cases ha.symm.trans hj
      refine ⟨cl.setSlot n v, q1.same W, by rw [sz_set]; exact q2, fun i hi => ?_⟩
      by_cases ei : i = n
      · subst ei; rw [← hv]; simp [Cell.setSlot, q2, hi]
      · have := hI (j + 1) i (Or.inr ei)
        have q4 := q3 i hi
        simp only [elv, this.1, this.2] at q4 ⊢
        simp only [Cell.setSlot]
        rw [Array.getElem?_setIfInBounds_ne (fun q => ei q.symm)]; exact q4
    · refine ⟨cl, q1.other W (adr_ne2 _ e), q2, fun i hi => ?_⟩
      have := hI (j + 1) i (Or.inl (by omega))
      rw [q3 i hi]; simp only [elv, this.1, this.2]
  · have := hI j i (Or.inl (by omega))
    rw [this.1, this.2]; exact h4 j i hj
theorem HRep.newArr {P : Cl} {Z : State} {a0 : Array Value} (LK : LinkC P Z a0) {h h1 h2 : Heap} {adr c k tt N : Nat} {fe : Fe} {s : St} {n : Int32} {cA : ClassId} (H : HRep P Z h adr c s) (hk : asc P.fs k = some fe) (hkd : fe.2.2.1 = c + 3)
    (ha : P.al[c]? = some (tt, N)) (hn0 : 0 ≤ n.toInt) (hn : n.toInt = N) (hsz : h.size = adr + 1 + c) (E : Ext h h1) (A : Arr Z h1 h.size (newA cA (tyOf tt) n) (tyOf tt)) (W : Wr h1 h2 adr (RoadKit.slotOf Z P.nm fe.1 fe.2.1) (.ref h.size)) : HRep P Z h2 adr (c + 1) s := by
  obtain ⟨g1, g2, g3, g4, g5⟩ := H
  have hc : c < P.al.length := (List.getElem?_eq_some_iff.mp ha).1
  have hNn : n.toNatClampNeg = N := by simp only [Int32.toNatClampNeg]; omega
  have htt := (LK.2.2.2.2.2.1 _ _ _ ha).1
  refine ⟨(g1.ext E).wr W, fun k2 fe2 hk2 => ?_, fun j tt2 N2 hj hjc => ?_, fun j i hj => g4 j i (by omega), hc⟩
  · by_cases e : k2 = k
    · subst e; cases hk.symm.trans hk2
      have q := ((g2 _ _ hk).ext E).same W
      have e2 : Fval adr (c + 1) s k2 fe = .ref h.size := by simp only [Fval, hkd]; rw [if_pos (Nat.lt_succ_self c), hsz]; exact congrArg Value.ref (show adr + (c + 1) = adr + 1 + c by omega)
      rw [e2]; exact q
    · have hne := LK.2.2.2.2.1 _ _ _ _ hk2 hk e
      have q := ((g2 _ _ hk2).ext E).other W (Or.inr (slot_ne (laid_of LK hk2) (laid_of LK hk) hne.1 (LK.2.2.2.1 _ _ hk2) (LK.2.2.2.1 _ _ hk)))
      have e2 : Fval adr (c + 1) s k2 fe2 = Fval adr c s k2 fe2 := by
        simp only [Fval]; split
        · rfl
        · rfl
        · rfl
        · rename_i j hj
          have : j ≠ c := fun q => (hne.2 (by rw [hj]; omega)) (by rw [hj, hkd, q])
          by_cases b : j < c
          · rw [if_pos b, if_pos (by omega)]
          · rw [if_neg b, if_neg (by omega)]
      rw [e2]; exact q
  · by_cases e : j = c
    · subst e; cases ha.symm.trans hj
      have hA : Arr Z h2 h.size (newA cA (tyOf tt) n) (tyOf tt) := A.other W (show h.size ≠ adr by omega)
      refine ⟨newA cA (tyOf tt) n, by rw [show adr + (j + 1) = h.size by omega]; exact hA, by rw [sz_new]; exact hNn, fun i hi => ?_⟩
      have z := g4 (j + 1) i (by omega)
      simp only [newA, hNn, elv, z.1, z.2]
      rw [Array.getElem?_replicate, if_pos hi]
      have : tt = 0 ∨ tt = 1 ∨ tt = 2 := by omega
      rcases this with rfl | rfl | rfl <;> rfl
    · obtain ⟨cl, q1, q2, q3⟩ := g3 j tt2 N2 hj (by omega)
      exact ⟨cl, (q1.ext E).other W (adr_ne _ _), q2, q3⟩
/-- outside the object nothing moves -/
def Kp (h0 h : Heap) (adr n : Nat) : Prop := ∀ x, (x < adr ∨ adr + 1 + n ≤ x) → h[x]? = h0[x]?
theorem Kp.wr {h0 h h' : Heap} {adr n a sl : Nat} {v : Value} (K : Kp h0 h adr n) (W : Wr h h' a sl v) (h1 : adr ≤ a) (h2 : a < adr + 1 + n) : Kp h0 h' adr n := fun x hx => by
  obtain ⟨cell, q1, q2, q3, rfl⟩ := W
  rw [Array.getElem?_setIfInBounds_ne (by omega)]; exact K x hx
theorem Kp.ext {h0 h h' : Heap} {adr n : Nat} (K : Kp h0 h adr n) (E : Ext h h') (h1 : h'.size ≤ adr + 1 + n) (h2 : adr ≤ h.size) : Kp h0 h' adr n := fun x hx => by
  rw [← K x hx]
  by_cases b : x < h.size
  · obtain ⟨c, hc⟩ : ∃ c, h[x]? = some c := ⟨h[x], Array.getElem?_eq_getElem b⟩
    rw [hc]; exact E.2 _ _ hc
  · rw [Array.getElem?_eq_none (by omega), Array.getElem?_eq_none (by omega)]
theorem Kp.trans {h0 h h' : Heap} {adr n : Nat} (K : Kp h0 h adr n) (K' : Kp h h' adr n) : Kp h0 h' adr n := fun x hx => (K' x hx).trans (K x hx)
def cRoom (P : Cl) (mi : Nat) (me : Me) : Room := { frames := me.rf, cells := if mi = 0 then P.al.length else 0, slots := if mi = 0 then zs P.al P.al.length else 0, locals := me.rl }
def QC (P : Cl) (Z : State) (n0 adr mi c : Nat) (w : Option Value) (s' : St) (h0 : Heap) (v : Option Value) (h : Heap) (L : List Loc) : Prop :=
  (v = w ∧ ∀ ρ, v.toList.map (va ρ) = v.toList) ∧ Fr n0 L ∧ HRep P Z h adr (if mi = 0 then P.al.length else c) s' ∧ Kp h0 h adr P.al.length ∧ h.size = (if mi = 0 then adr + 1 + P.al.length else h0.size)
/-- the run from S ends, and so -/
def Don (p : Program) (e : Env) (below : List Frame) (s₀ : State) (rm : Room) (Q : Option Value → Heap → List Loc → Prop) (S : State) : Prop :=
  ∃ s₂ o, Steps p.tables e below S s₂ ∧ s₂.status = .running ∧ Ended s₂ below o ∧ ∃ v L, o = .returned v ∧ Q v s₂.heap L ∧ FrameEnd s₀ o s₂ L rm.cells rm.slots
theorem Don.step {p : Program} {e : Env} {below : List Frame} {s₀ : State} {rm : Room} {Q : Option Value → Heap → List Loc → Prop} {S S' : State} (h : ∀ t, Steps p.tables e below S' t → Steps p.tables e below S t) (D : Don p e below s₀ rm Q S') : Don p e below s₀ rm Q S := by
  obtain ⟨s₂, o, h1, h2⟩ := D; exact ⟨s₂, o, h _ h1, h2⟩
def Inv (P : Cl) (Z : State) (n0 adr mi c : Nat) (s : St) (h0 h : Heap) (locs : List Loc) : Prop :=
  HRep P Z h adr c s ∧ Fr n0 locs ∧ Kp h0 h adr P.al.length ∧ h.size = (if mi = 0 then adr + 1 + c else h0.size)
def co (mi c : Nat) : Nat := if mi = 0 then c else 0
def zo (P : Cl) (mi c : Nat) : Nat := if mi = 0 then zs P.al c else 0
/-- what the walk of a body is to show, at a given fuel -/
def CW (P : Cl) (Z : State) (n0 adr f mi : Nat) (me : Me) : Prop :=
  ∀ (p : Program) (l : Launch) (e : Env) (s₀ : State) (m : MethodId) (args : Array Value) (below : List Frame) (meth : Method) (cd : Code) (T : State) (locs : List Loc) (h0 : Heap) (c pc : Nat) (ls : Lv) (st : List Value) (s : St) (v : Option Value) (s' : St) (L : Array Slot),
    p.tables.exec = Jvm.exec → Z.Warmed39 s₀.vm → s₀.vm.findClass P.nm = some m.cls → meth.name = me.nm → meth.sig.returnType = retOf me.rt → cd.maxLocals = me.ml → meth.locks = false → (mi = 0 → s₀.heap.size = adr + 1) →
    (∀ pc i n, fetch me.cd pc = some (i, n) → decode cd.code pc = .ok (i, n) ∧ (isSw i = true ∨ n = ilen i)) →
    cexec P f mi me c pc ls st s = some (v, s') →
    Stand p l e (cRoom P mi me) s₀ m args below meth cd T locs (co mi c) (zo P mi c) →
    Inv P Z n0 adr mi c s h0 T.heap locs → LR (adr + ·) ls L → ls.length = me.ml →
    Don p e below s₀ (cRoom P mi me) (QC P Z n0 adr mi c v s' h0) (T.setTop (mkF m pc L (st.map (va (adr + ·)))))
theorem zs_mono (al : List (Nat × Nat)) {a b : Nat} (h : a ≤ b) : zs al a ≤ zs al b := by
  obtain ⟨d, rfl⟩ := Nat.le.dest h
  simp only [zs]
  rw [List.take_add, List.map_append, List.sum_append]; omega
theorem zs_succ (al : List (Nat × Nat)) {c tt N : Nat} (h : al[c]? = some (tt, N)) : zs al (c + 1) = zs al c + N := by
  simp only [zs, List.take_add_one, h]; simp
theorem zs_le (al : List (Nat × Nat)) (a : Nat) : zs al a ≤ zs al al.length := by
  by_cases h : a ≤ al.length
  · exact zs_mono al h
  · simp only [zs]; rw [List.take_of_length_le (by omega), List.take_of_length_le (Nat.le_refl _)]
    exact Nat.le_refl _
theorem narrow_I (z : Int32) : narrow .int (.int z) = .int z := rfl
theorem inb_not {n : Nat} {i : Int32} (h : inb n i) : ¬ (i < 0 ∨ n ≤ i.toNatClampNeg) := by
  intro q
  simp only [Int32.lt_iff_toInt_lt, Int32.toNatClampNeg, Int32.reduceToInt] at q
  have := h.1; have := h.2
  omega
theorem inb_ix {n : Nat} {i : Int32} (h : inb n i) : ix i < n := by
  have := h.1; have := h.2
  simp only [ix, Int32.toNatClampNeg]; omega
end Jvm.LM

namespace Jvm.LM
open Sem ClassFile Op Lib Jvm.Stand Jvm.Free Jvm.LawKit Jvm.RoadKit
/-! entering a method -/
def slA : List Value → List Slot
  | [] => []
  | v :: r => if v.category = 2 then .val v :: .second :: slA r else .val v :: slA r
theorem foldl_slA (as : List Value) (acc : Array Slot) : as.foldl (fun acc v => if v.category = 2 then (acc.push (.val v)).push .second else acc.push (.val v)) acc = acc ++ (slA as).toArray := by
  induction as generalizing acc with
  | nil => simp [slA]
  | cons v r ih =>
    rw [List.foldl_cons, ih]
    simp only [slA]
    split <;> simp
theorem al_eq (args : Array Value) (n : Nat) : argsToLocals args n = (let filled := args.foldl (init := #[]) fun acc v => if v.category = 2 then (acc.push (.val v)).push .second else acc.push (.val v); filled ++ Array.replicate (n - filled.size) .unset) := rfl
theorem atl_eq (as : List Value) (n : Nat) : argsToLocals as.toArray n = (slA as ++ List.replicate (n - (slA as).length) Slot.unset).toArray := by
  rw [al_eq]
  have : Array.foldl (fun acc v => if v.category = 2 then (acc.push (Slot.val v)).push .second else acc.push (.val v)) #[] as.toArray = (slA as).toArray := by
    rw [List.foldl_toArray, foldl_slA]; simp
  simp only [this]
  simp
theorem wfl_one {x : Slot} {l : List Slot} (h : WFf (fun k => l[k]?)) (hx : x ≠ .second) (hc : ∀ v, x = .val v → v.category ≠ 2) : WFf (fun k => (x :: l)[k]?) := by
  obtain ⟨h1, h2, h3⟩ := h
  refine ⟨fun k v hk hv => ?_, fun k hk => ?_, ?_⟩
  · cases k with
    | zero => simp at hk; exact absurd hv (hc v hk)
    | succ k => simp at hk ⊢; exact h1 k v hk hv
  · cases k with
    | zero => simp at hk; exact absurd (by simpa using hk) h3
    | succ k => simp at hk ⊢; exact h2 k (by simpa using hk)
  · simpa using hx
theorem wfl_two {v : Value} {l : List Slot} (h : WFf (fun k => l[k]?)) (hc : v.category = 2) : WFf (fun k => (Slot.val v :: .second :: l)[k]?) := by
  obtain ⟨h1, h2, h3⟩ := h
  refine ⟨fun k w hk hv => ?_, fun k hk => ?_, by simp⟩
  · match k with
    | 0 => simp
    | 1 => simp at hk
    | k + 2 => simp at hk ⊢; exact h1 k w hk hv
  · match k with
    | 0 => exact ⟨v, by simp, hc⟩
    | 1 => exact absurd (by simpa using hk) h3
    | k + 2 => simp at hk ⊢; exact h2 k (by simpa using hk)
theorem wfl_rep (n : Nat) : WFf (fun k => (List.replicate n Slot.unset)[k]?) := by
  refine ⟨fun k v hk _ => ?_, fun k hk => ?_, ?_⟩
  · simp [List.getElem?_replicate] at hk
  · simp [List.getElem?_replicate] at hk
  · simp [List.getElem?_replicate]
theorem wfl_slA (as : List Value) (r : List Slot) (h : WFf (fun k => r[k]?)) : WFf (fun k => (slA as ++ r)[k]?) := by
  induction as with
  | nil => simpa [slA] using h
  | cons v t ih =>
    simp only [slA]
    split
    · rename_i hc; exact wfl_two ih hc
    · rename_i hc; exact wfl_one ih (by simp) (fun w hw => by cases hw; exact hc)
theorem slA_len (ρ : Nat → Nat) (as : List Value) (hd : ∀ v ∈ as, ∀ x, v ≠ .double x) : (slA (as.map (va ρ))).length = (layA as).length := by
  induction as with
  | nil => rfl
  | cons v t ih =>
    have ih := ih fun w hw => hd w (List.mem_cons_of_mem _ hw)
    cases v <;> simp [slA, layA, va, Value.category, ih]
    exact absurd rfl (hd _ (List.mem_cons_self ..) _)
theorem layA_get {ρ : Nat → Nat} {as : List Value} (hd : ∀ v ∈ as, ∀ x, v ≠ .double x) {k : Nat} {w : Value} (h : (layA as)[k]? = some (some w)) : (slA (as.map (va ρ)))[k]? = some (.val (va ρ w)) := by
  induction as generalizing k with
  | nil => simp [layA] at h
  | cons v t ih =>
    have ih' := fun {k} => ih (k := k) fun w hw => hd w (List.mem_cons_of_mem _ hw)
    cases v
    case long x =>
      simp only [layA] at h
      match k with
      | 0 => simp at h; subst h; simp [slA, va, Value.category]
      | 1 => simp at h
      | k + 2 => simp at h; simpa [slA, va, Value.category] using ih' h
    case double x => exact absurd rfl (hd _ (List.mem_cons_self ..) _)
    all_goals
      simp only [layA] at h
      match k with
      | 0 => simp at h; subst h; simp [slA, va, Value.category]
      | k + 1 => simp at h; simpa [slA, va, Value.category] using ih' h
theorem lay_LR {ρ : Nat → Nat} {as : List Value} (hd : ∀ v ∈ as, ∀ x, v ≠ .double x) {n : Nat} (hn : (layA as).length ≤ n) : LR ρ (lay as n) (argsToLocals (as.map (va ρ)).toArray n) := by
  rw [atl_eq]
  have hl := slA_len ρ as hd
  refine ⟨by simp [lay, hl], fun k w hk => ?_, ?_⟩
  · simp only [lay] at hk
    rw [List.getElem?_append] at hk
    split at hk
    · have := layA_get (ρ := ρ) hd hk
      rw [List.getElem?_toArray, List.getElem?_append_left (by omega)]; exact this
    · simp [List.getElem?_replicate] at hk
  · have := wfl_slA (as.map (va ρ)) (List.replicate (n - (slA (as.map (va ρ))).length) Slot.unset) (wfl_rep _)
    have q : WFf (fun k => ((slA (as.map (va ρ)) ++ List.replicate (n - (slA (as.map (va ρ))).length) Slot.unset).toArray)[k]?) := by
      simpa using this
    exact q
theorem lay_len {as : List Value} {n : Nat} (hn : (layA as).length ≤ n) : (lay as n).length = n := by simp [lay]; omega
section Call
variable {p : Program} {l : Launch} {e : Env} {R : Room} {s : State} {m : MethodId} {args : Array Value} {below : List Frame} {meth : Method} {c : Code} {T : State} {locs : List Loc} {cells slots : Nat}
/-- a private method of a class that is no interface -/
theorem privCall (X : Stand p l e R s m args below meth c T locs cells slots) (hexec : p.tables.exec = Jvm.exec) {own : String} {index : Nat} {y : MethodName} {bytes : ByteArray} {maxL nF : Nat} {ret : Option FieldType}
    (hown : s.vm.findClass own = some m.cls) (hlink : (Cond.methodLink own index y).before args s = true) (hinst : (Cond.instanceMethod y).before args s = true) (hi : (Cond.instantiable y.cls nF).before args s = true)
    (hpriv : s.PrivateAt y) (hcode : (Cond.code y bytes maxL ret).before args s = true) (hy : y.cls ≠ "java/lang/invoke/MethodHandle" ∧ y.cls ≠ "java/lang/invoke/VarHandle")
    {W : Nat} {Pre : Free.Pt → Array Value → Prop} {Post : Free.Pt → Array Value → Option Value → Free.Pt → Prop} (hK : Free.Back l R p e below s args y 3 W Pre Post)
    {g : JFrame} (hg : g.method = m) (hsize : g.locals.size = c.maxLocals) {a : Addr} {cell : Cell} (hcell : T.heap[a]? = some cell) (hobj : ∀ q, cell.vm ≠ .statics q)
    {argsL rest : List Value} (hlen : ∀ sig, parseMethodDescriptor y.desc = some sig → argsL.length = sig.parameters.length)
    (hstack : g.stack = argsL.reverse ++ .ref a :: rest) (hW : 2 * g.monitorRoom + (rest.map fun v => v.category).sum ≤ W) (hdg : decode c.code g.pc = .ok (.invokevirtual index, 3))
    (hpre : ∀ vm₁, s.WarmedH vm₁ → Pre ⟨T.setVm vm₁, locs, cells, slots⟩ (.ref a :: argsL).toArray) :
    ∃ (v : Option Value) (vm₁ : Vm) (B : Free.Pt), s.WarmedH vm₁ ∧ Stand p l e R s m args below meth c B.U B.locs B.cells B.slots ∧ Post ⟨T.setVm vm₁, locs, cells, slots⟩ (.ref a :: argsL).toArray v B ∧
      Steps p.tables e below (T.setTop g) (B.U.setTop { g with pc := g.pc + 3, stack := v.toList ++ rest }) := by
  obtain ⟨mk, mM, hnamed, hmM, hst, hab⟩ := Cond.instanceMethod_spec hinst
  obtain ⟨mM', cM, hmM', -, -, -, -, -, -, hsig⟩ := Cond.code_spec hnamed hcode
  cases hmM.symm.trans hmM'
  obtain ⟨cc, kk, i1, i2, -, i4, -⟩ := Cond.instantiable_spec hi
  cases (findClass_of_methodNamed hnamed).symm.trans i1
  have hni : kk.isInterface = false := by
    cases q : kk.isInterface
    · rfl
    · rw [q] at i4; simp at i4
  have hsel : selectMethod e.platform s.vm cell.cls mk = .method mk := selectMethod_private hmM (hpriv mk mM hnamed hmM)
  obtain ⟨vm₁, X₁, hstep⟩ := X.invokevirtual hexec hown hlink hnamed hmM hst i2 hni hy hcell hobj hsel hmM hab i2 hni (g := g) hg (hlen _ hsig) hstack hdg
  obtain ⟨v, B, X', hpost, hs⟩ := hK m meth c ⟨T.setVm vm₁, locs, cells, slots⟩ { g with stack := rest } (.invokevirtual index) mk (.ref a :: argsL).toArray X₁ hg hsize hdg hW (X₁.named hnamed) (hpre vm₁ X₁.warmed)
  exact ⟨v, vm₁, B, X₁.warmed, X', hpost, hstep _ fun acts => by rw [doInvoke_state]; exact hs⟩
end Call
theorem cats_va (ρ : Nat → Nat) (st : List Value) : ((st.map (va ρ)).map fun v => v.category).sum = cats st := by
  simp only [cats, List.map_map]; congr 1; exact List.map_congr_left fun v _ => cat_va ρ v
/-- what a method of the class keeps, as a contract, from its walk -/
theorem met_of_CW {P : Cl} {Z : State} {a0 : Array Value} (LK : LinkC P Z a0) {n0 adr f mi : Nat} {me : Me} (hme : asc P.ms mi = some me) (hW : CW P Z n0 adr f mi me) (l : Launch) {bytes : ByteArray}
    (hdec : ∀ pc i n, fetch me.cd pc = some (i, n) → decode bytes pc = .ok (i, n) ∧ (isSw i = true ∨ n = ilen i))
    {as : List Value} (hd : ∀ v ∈ as, ∀ x, v ≠ .double x) (hlen : (layA as).length ≤ me.ml) {c : Nat} {s s' : St} {v : Option Value} {h : Heap} (hr : cexec P f mi me c 0 (lay as me.ml) [] s = some (v, s')) (hc : mi = 0 → c = 0)
    (H : HRep P Z h adr c s) (hsz : mi = 0 → h.size = adr + 1) :
    MetFree l (yOf P me) (head1 [Cond.code (yOf P me) bytes me.ml (retOf me.rt)] (cRoom P mi me)) (fun a U => a = (as.map (va (adr + ·))).toArray ∧ Z.Warmed39 U.vm ∧ U.heap = h) (fun _ _ _ _ _ => True)
      (fun _ U o U' => ∃ w L, o = .returned w ∧ QC P Z n0 adr mi c v s' h w U'.heap L ∧ FrameEnd U o U' L (cRoom P mi me).cells (cRoom P mi me).slots) := by
  refine MetFree.of_bodySF (plainFor_of_name LK.2.2.2.2.2.2.2.2.2.2.1) hisR ?_
  intro p e s₀ m args below meth cd s₁ Bd hml hP hK
  obtain ⟨rfl, hZ, hh⟩ := hP
  have e0 : s₁.heap = h := by rw [← hh, Bd.state]; rfl
  have X0 : Stand p l e (cRoom P mi me) s₀ m _ below meth cd s₁ [] 0 0 := Stand.of_body Bd
  have hown : s₀.vm.findClass P.nm = some m.cls := findClass_of_methodNamed Bd.named
  have hnm : meth.name = me.nm := (name_of_methodNamed Bd.named Bd.method).1
  have hk0 : co mi c = 0 := by simp only [co]; split; · rename_i q; exact hc q
                               · rfl
  have hz0 : zo P mi c = 0 := by
    simp only [zo]; split
    · rename_i q; rw [hc q]; simp [zs]
    · rfl
  have D := hW p l e s₀ m _ below meth cd s₁ [] h c 0 (lay as me.ml) [] s v s' _ Bd.exec hZ hown hnm Bd.returns hml Bd.notSynchronized (fun q => by rw [hh]; exact hsz q)
    (fun pc i n q => by rw [Bd.bytes]; exact hdec pc i n q) hr (by rw [hk0, hz0]; exact X0)
    ⟨by rw [e0]; exact H, Fr.nil n0, by rw [e0]; exact fun x _ => rfl, by
      rw [e0]; split
      · rename_i q; rw [hsz q, hc q]
      · rfl⟩ (lay_LR hd hlen) (lay_len hlen)
  obtain ⟨s₂, o, a1, a2, a3, w, L, a4, a5, a6⟩ := D
  exact ⟨s₂, o, a1, a2, a3, w, L, a4, a5, a6⟩
end Jvm.LM

namespace Jvm.LM
open Sem ClassFile Op Lib Jvm.Stand Jvm.Free Jvm.LawKit Jvm.RoadKit
section Steps
variable {p : Program} {l : Launch} {e : Env} {R : Room} {s₀ : State} {m : MethodId} {args : Array Value} {below : List Frame} {meth : Method} {cd : Code} {T : State} {locs : List Loc} {cells slots : Nat}
variable {P : Cl} {Z : State} {a0 : Array Value} {n0 adr c mi : Nat} {s s' : St} {h0 : Heap}
theorem gfld_val {x : Nat} {w : Value} (hg : gfld P x c s = some w) : ∃ k fe, asc P.fx x = some k ∧ asc P.fs k = some fe ∧ Fval adr c s k fe = va (adr + ·) w := by
  unfold gfld at hg
  split at hg
  · cases hg
  · rename_i k e1
    split at hg
    · cases hg
    · rename_i fe e2
      refine ⟨k, fe, e1, e2, ?_⟩
      simp only [Fval]
      split at hg
      · rename_i e3; cases hg; first | rfl | (rw [e3]; rfl)
      · rename_i e3; cases hg; first | rfl | (rw [e3]; rfl)
      · rename_i e3; cases hg; first | rfl | (rw [e3]; rfl)
      · rename_i j e3
        split at hg
        · rename_i e4; cases hg; first | (simp only [if_pos e4]; rfl) | (rw [e3]; simp only [if_pos e4]; rfl)
        · cases hg
theorem st_get (LK : LinkC P Z a0) (X : Stand p l e R s₀ m args below meth cd T locs cells slots) (hx : p.tables.exec = Jvm.exec) (hZ : Z.Warmed39 s₀.vm) (hown : s₀.vm.findClass P.nm = some m.cls) (H : HRep P Z T.heap adr c s) {x pc : Nat} {w : Value} (hg : gfld P x c s = some w)
    (hd : decode cd.code pc = .ok (.getfield x, 3)) {L : Array Slot} {r : List Value} :
    ∃ T', Stand p l e R s₀ m args below meth cd T' locs cells slots ∧ T'.heap = T.heap ∧ ∀ t, Steps p.tables e below (T'.setTop (mkF m (pc + 3) L (va (adr + ·) w :: r))) t → Steps p.tables e below (T.setTop (mkF m pc L (.ref adr :: r))) t := by
  obtain ⟨k, fe, e1, e2, e3⟩ := gfld_val (adr := adr) hg
  have F := H.2.1 k fe e2
  rw [e3] at F
  exact getF X hx hZ hown (host := "") (Or.inl (LK.2.1 _ _ e1 _ e2)) Via.refl rfl F (g := mkF m pc L (.ref adr :: r)) rfl rfl hd
theorem st_put (LK : LinkC P Z a0) (X : Stand p l e R s₀ m args below meth cd T locs cells slots) (hx : p.tables.exec = Jvm.exec) (hZ : Z.Warmed39 s₀.vm) (hown : s₀.vm.findClass P.nm = some m.cls) (hna : n0 ≤ adr) (I : Inv P Z n0 adr mi c s h0 T.heap locs) {x pc : Nat} {w : Value} {ini : Bool} (hini : ini = true → meth.name = "<init>") (hg : pfld P x ini w s = some s')
    (hd : decode cd.code pc = .ok (.putfield x, 3)) {L : Array Slot} {r : List Value} :
    ∃ T' locs', Stand p l e R s₀ m args below meth cd T' locs' cells slots ∧ Inv P Z n0 adr mi c s' h0 T'.heap locs' ∧ ∀ t, Steps p.tables e below (T'.setTop (mkF m (pc + 3) L r)) t → Steps p.tables e below (T.setTop (mkF m pc L (w :: .ref adr :: r))) t := by
  obtain ⟨H, hFr, hK, hS⟩ := I
  obtain ⟨nF, hnF⟩ := LK.1.1
  unfold pfld at hg
  split at hg
  · cases hg
  · rename_i k e1
    split at hg
    · cases hg
    · rename_i fe e2
      split at hg
      · cases hg
      · rename_i e3
        have hL : (Cond.lays P.nm P.nm fe.1 fe.2.1).before a0 Z = true ∨ ((Cond.laysFinal P.nm P.nm fe.1 fe.2.1).before a0 Z = true ∧ P.nm = P.nm ∧ meth.name = "<init>") := by
          have q := LK.2.2.1 k fe e2
          split at q
          · rename_i e4
            refine Or.inr ⟨q, rfl, hini ?_⟩
            cases ini
            · exact absurd ⟨e4, rfl⟩ e3
            · rfl
          · exact Or.inl q
        have hp := LK.2.2.2.1 k fe e2
        have fin : ∀ {T' : State} {h' : Heap} {v' : Value}, Stand p l e R s₀ m args below meth cd T' (locs ++ [⟨adr, RoadKit.slotOf Z P.nm fe.1 fe.2.1⟩]) cells slots → T'.heap = h' → Wr T.heap h' adr (RoadKit.slotOf Z P.nm fe.1 fe.2.1) v' → v' = Fval adr c s' k fe →
            (∀ a b, (a ≠ 0 ∨ b ≠ k) → gI s' a b = gI s a b ∧ gL s' a b = gL s a b) → Inv P Z n0 adr mi c s' h0 T'.heap (locs ++ [⟨adr, RoadKit.slotOf Z P.nm fe.1 fe.2.1⟩]) := fun {T' h' v'} X' e4 W e5 e6 => by
          rw [e4]
          exact ⟨H.putFld LK e2 W e5 e6, Fr.snoc X' hFr hna, hK.wr W (Nat.le_refl _) (by omega), by rw [W.size]; exact hS⟩
        split at hg
        · rename_i z e4
          cases hg
          rw [e4] at hp
          obtain ⟨T', h', X', q1, W, st⟩ := putF X hx hZ hown (host := "") (Or.inl (LK.2.1 _ _ e1 _ e2)) Via.refl rfl (H.2.1 k fe e2) H.1 hL hnF hp (narrow_I z) rfl (g := mkF m pc L (.int z :: .ref adr :: r)) rfl rfl hd
          refine ⟨T', _, X', fin X' q1 W (by simp only [Fval, e4]; simp [gI_sI]) (fun a b hab => ?_), st⟩
          rw [gI_sI, gL_sI, if_neg (by omega)]; exact ⟨rfl, rfl⟩
        · rename_i z e4
          cases hg
          rw [e4] at hp
          obtain ⟨T', h', X', q1, W, st⟩ := putFN X hx hZ hown (LK.2.1 _ _ e1 _ e2) Via.refl rfl (H.2.1 k fe e2) H.1 hL hnF (v' := .int (z &&& 1)) hp rfl (fits_nar_bool z) (g := mkF m pc L (.int z :: .ref adr :: r)) rfl rfl hd
          refine ⟨T', _, X', fin X' q1 W (by simp only [Fval, e4]; simp [gI_sI]) (fun a b hab => ?_), st⟩
          rw [gI_sI, gL_sI, if_neg (by omega)]; exact ⟨rfl, rfl⟩
        · rename_i z e4
          cases hg
          rw [e4] at hp
          obtain ⟨T', h', X', q1, W, st⟩ := putF X hx hZ hown (host := "") (Or.inl (LK.2.1 _ _ e1 _ e2)) Via.refl rfl (H.2.1 k fe e2) H.1 hL hnF hp rfl rfl (g := mkF m pc L (.long z :: .ref adr :: r)) rfl rfl hd
          refine ⟨T', _, X', fin X' q1 W (by simp only [Fval, e4]; simp [gL_sL]) (fun a b hab => ?_), st⟩
          rw [gL_sL, gI_sL, if_neg (by omega)]; exact ⟨rfl, rfl⟩
        · cases hg
theorem lda_spec {tt : Nat} {st st' : List Value} (hl : lda P tt c st s = some st') : ∃ i a r N, st = .int i :: .ref (a + 1) :: r ∧ P.al[a]? = some (tt, N) ∧ a < c ∧ inb N i ∧ st' = elv tt s (a + 1) (ix i) :: r := by
  unfold lda at hl
  split at hl
  · rename_i i a r
    split at hl
    · rename_i t2 N e1
      split at hl
      · rename_i e2
        obtain ⟨rfl, e3⟩ := e2
        split at hl
        · rename_i e4; cases hl; exact ⟨i, a, r, N, rfl, e1, e3, e4, rfl⟩
        · cases hl
      · cases hl
    · cases hl
  · cases hl
theorem va_elv (ρ : Nat → Nat) (tt : Nat) (s : St) (j i : Nat) : va ρ (elv tt s j i) = elv tt s j i := by unfold elv; split <;> rfl
theorem st_lda (X : Stand p l e R s₀ m args below meth cd T locs cells slots) (hx : p.tables.exec = Jvm.exec) (hZ : Z.Warmed39 s₀.vm) (H : HRep P Z T.heap adr c s) {tt pc : Nat} {st st' : List Value} (hl : lda P tt c st s = some st') {i : Instr}
    (hi : (tt = 0 ∧ i = .iaload) ∨ (tt = 1 ∧ i = .baload) ∨ (tt = 2 ∧ i = .laload)) (hd : decode cd.code pc = .ok (i, 1)) {L : Array Slot} :
    ∀ t, Steps p.tables e below (T.setTop (mkF m (pc + 1) L (st'.map (va (adr + ·))))) t → Steps p.tables e below (T.setTop (mkF m pc L (st.map (va (adr + ·))))) t := by
  obtain ⟨j, a, r, N, rfl, e1, e2, e3, rfl⟩ := lda_spec hl
  obtain ⟨cl, A, hN, hv⟩ := H.2.2.1 a tt N e1 e2
  have hin : ¬ (j < 0 ∨ cl.slots.size ≤ j.toNatClampNeg) := by rw [hN]; exact inb_not e3
  have hat : cl.slots[j.toNatClampNeg]? = some (elv tt s (a + 1) (ix j)) := hv (ix j) (inb_ix e3)
  intro t q
  rw [List.map_cons, va_elv] at q
  rcases hi with ⟨rfl, rfl⟩ | ⟨rfl, rfl⟩ | ⟨rfl, rfl⟩
  · exact X.iaload hx A.1 (State.isArrayOf_alike hZ.alike A.2.1) A.2.2 hin hat (g := mkF m pc L (.int j :: .ref (adr + (a + 1)) :: r.map (va (adr + ·)))) rfl rfl hd t q
  · exact X.baloadBooleans hx A.1 (State.isArrayOf_alike hZ.alike A.2.1) A.2.2 hin hat (g := mkF m pc L (.int j :: .ref (adr + (a + 1)) :: r.map (va (adr + ·)))) rfl rfl hd t q
  · exact X.laload hx A.1 (State.isArrayOf_alike hZ.alike A.2.1) A.2.2 hin hat (g := mkF m pc L (.int j :: .ref (adr + (a + 1)) :: r.map (va (adr + ·)))) rfl rfl hd t q
theorem sta_spec {tt : Nat} {st st' : List Value} (hl : sta P tt c st s = some (st', s')) : ∃ v i a N, st = v :: .int i :: .ref (a + 1) :: st' ∧ P.al[a]? = some (tt, N) ∧ a < c ∧ inb N i ∧
    ((tt = 0 ∧ ∃ z, v = .int z ∧ s' = sI s (a + 1) (ix i) z) ∨ (tt = 1 ∧ ∃ z, v = .int z ∧ s' = sI s (a + 1) (ix i) (z &&& 1)) ∨ (tt = 2 ∧ ∃ z, v = .long z ∧ s' = sL s (a + 1) (ix i) z)) := by
  unfold sta at hl
  split at hl
  · rename_i v i a r
    split at hl
    · rename_i t2 N e1
      split at hl
      · rename_i e2
        obtain ⟨rfl, e3⟩ := e2
        split at hl
        · rename_i e4
          split at hl
          · cases hl; exact ⟨_, i, a, N, rfl, e1, e3, e4, Or.inl ⟨rfl, _, rfl, rfl⟩⟩
          · cases hl; exact ⟨_, i, a, N, rfl, e1, e3, e4, Or.inr (Or.inl ⟨rfl, _, rfl, rfl⟩)⟩
          · cases hl; exact ⟨_, i, a, N, rfl, e1, e3, e4, Or.inr (Or.inr ⟨rfl, _, rfl, rfl⟩)⟩
          · cases hl
        · cases hl
      · cases hl
    · cases hl
  · cases hl
theorem st_sta (X : Stand p l e R s₀ m args below meth cd T locs cells slots) (hx : p.tables.exec = Jvm.exec) (hZ : Z.Warmed39 s₀.vm) (hna : n0 ≤ adr) (I : Inv P Z n0 adr mi c s h0 T.heap locs) {tt pc : Nat} {st st' : List Value} (hl : sta P tt c st s = some (st', s')) {i : Instr}
    (hi : (tt = 0 ∧ i = .iastore) ∨ (tt = 1 ∧ i = .bastore) ∨ (tt = 2 ∧ i = .lastore)) (hd : decode cd.code pc = .ok (i, 1)) {L : Array Slot} :
    ∃ T' locs', Stand p l e R s₀ m args below meth cd T' locs' cells slots ∧ Inv P Z n0 adr mi c s' h0 T'.heap locs' ∧ ∀ t, Steps p.tables e below (T'.setTop (mkF m (pc + 1) L (st'.map (va (adr + ·))))) t → Steps p.tables e below (T.setTop (mkF m pc L (st.map (va (adr + ·))))) t := by
  obtain ⟨H, hFr, hK, hS⟩ := I
  obtain ⟨v, j, a, N, rfl, e1, e2, e3, e4⟩ := sta_spec hl
  obtain ⟨cl, A, hN, hv⟩ := H.2.2.1 a tt N e1 e2
  have hin : ¬ (j < 0 ∨ cl.slots.size ≤ j.toNatClampNeg) := by rw [hN]; exact inb_not e3
  have hal := (List.getElem?_eq_some_iff.mp e1).1
  have fin : ∀ {T' : State} {h' : Heap} {v' : Value}, Stand p l e R s₀ m args below meth cd T' (locs ++ [⟨adr + (a + 1), j.toNatClampNeg⟩]) cells slots → T'.heap = h' → Wr T.heap h' (adr + (a + 1)) j.toNatClampNeg v' → v' = elv tt s' (a + 1) (ix j) →
      (∀ x y, (x ≠ a + 1 ∨ y ≠ ix j) → gI s' x y = gI s x y ∧ gL s' x y = gL s x y) → Inv P Z n0 adr mi c s' h0 T'.heap (locs ++ [⟨adr + (a + 1), j.toNatClampNeg⟩]) := fun {T' h' v'} X' q1 W q2 q3 => by
    rw [q1]
    exact ⟨H.putArr e1 e2 (inb_ix e3) W q2 q3, Fr.snoc X' hFr (by omega), hK.wr W (by omega) (by omega), by rw [W.size]; exact hS⟩
  rcases e4 with ⟨rfl, z, rfl, rfl⟩ | ⟨rfl, z, rfl, rfl⟩ | ⟨rfl, z, rfl, rfl⟩
  · obtain ⟨-, rfl⟩ : (0 : Nat) = 0 ∧ i = .iastore := by rcases hi with q | q | q <;> first | exact q | (have := q.1; omega)
    obtain ⟨T', h', X', q1, W, st⟩ := stI X hx hZ rfl A hin (g := mkF m pc L (.int z :: .int j :: .ref (adr + (a + 1)) :: st'.map (va (adr + ·)))) rfl rfl hd
    refine ⟨T', _, X', fin X' q1 W (by simp [elv, gI_sI, ix]) (fun x y hxy => ?_), st⟩
    rw [gI_sI, gL_sI, if_neg (fun q => hxy.elim (fun z => z q.1) (fun z => z q.2))]; exact ⟨rfl, rfl⟩
  · obtain ⟨-, rfl⟩ : (1 : Nat) = 1 ∧ i = .bastore := by rcases hi with q | q | q <;> first | exact q | (have := q.1; omega)
    obtain ⟨T', h', X', q1, W, st⟩ := stZ X hx hZ rfl A hin (g := mkF m pc L (.int z :: .int j :: .ref (adr + (a + 1)) :: st'.map (va (adr + ·)))) rfl rfl hd
    refine ⟨T', _, X', fin X' q1 W (by simp [elv, gI_sI, ix, nar]) (fun x y hxy => ?_), st⟩
    rw [gI_sI, gL_sI, if_neg (fun q => hxy.elim (fun z => z q.1) (fun z => z q.2))]; exact ⟨rfl, rfl⟩
  · obtain ⟨-, rfl⟩ : (2 : Nat) = 2 ∧ i = .lastore := by rcases hi with q | q | q <;> first | exact q | (have := q.1; omega)
    obtain ⟨T', h', X', q1, W, st⟩ := stJ X hx hZ rfl A hin (g := mkF m pc L (.long z :: .int j :: .ref (adr + (a + 1)) :: st'.map (va (adr + ·)))) rfl rfl hd
    refine ⟨T', _, X', fin X' q1 W (by simp [elv, gL_sL, ix]) (fun x y hxy => ?_), st⟩
    rw [gL_sL, gI_sL, if_neg (fun q => hxy.elim (fun z => z q.1) (fun z => z q.2))]; exact ⟨rfl, rfl⟩
theorem newF_spec {t : ArrayType} {code : Cd} {pc : Nat} {st : List Value} (h : newF P t code pc c st = true) : ∃ n x k fe tt N, st = [.int n, .ref 0] ∧ fetch code (pc + 2) = some (.putfield x, 3) ∧ asc P.fx x = some k ∧ asc P.fs k = some fe ∧ P.al[c]? = some (tt, N) ∧
    fe.2.2.1 = c + 3 ∧ t = atOf tt ∧ 0 ≤ n.toInt ∧ n.toInt = N ∧ N < 1000000 := by
  unfold newF at h
  split at h
  · rename_i n
    split at h
    · rename_i x e1
      split at h
      · rename_i k e2
        split at h
        · rename_i fe e3
          split at h
          · rename_i tt N e4
            obtain ⟨q1, q2, q3, q4, q5⟩ := of_decide_eq_true h
            exact ⟨n, x, k, fe, tt, N, rfl, e1, e2, e3, e4, q1, q2, q3, q4, q5⟩
          · cases h
        · cases h
      · cases h
    · cases h
  · cases h
theorem ty_at {tt : Nat} (h : tt ≤ 2) : newarray.typeOf (atOf tt) = tyOf tt := by
  have : tt = 0 ∨ tt = 1 ∨ tt = 2 := by omega
  rcases this with rfl | rfl | rfl <;> rfl
theorem st_new (LK : LinkC P Z a0) {me : Me} (hme : asc P.ms 0 = some me) (hnm : meth.name = me.nm) (X : Stand p l e (cRoom P 0 me) s₀ m args below meth cd T locs (co 0 c) (zo P 0 c)) (hx : p.tables.exec = Jvm.exec) (hZ : Z.Warmed39 s₀.vm) (hown : s₀.vm.findClass P.nm = some m.cls) (hna : n0 ≤ adr) (hs0 : s₀.heap.size = adr + 1) (I : Inv P Z n0 adr 0 c s h0 T.heap locs)
    (hdec : ∀ pc i n, fetch me.cd pc = some (i, n) → decode cd.code pc = .ok (i, n) ∧ (isSw i = true ∨ n = ilen i)) {t : ArrayType} {pc : Nat} {st : List Value} (h : newF P t me.cd pc c st = true) (hd : decode cd.code pc = .ok (.newarray t, 2)) {L : Array Slot} :
    ∃ T' locs', Stand p l e (cRoom P 0 me) s₀ m args below meth cd T' locs' (co 0 (c + 1)) (zo P 0 (c + 1)) ∧ Inv P Z n0 adr 0 (c + 1) s h0 T'.heap locs' ∧ ∀ t, Steps p.tables e below (T'.setTop (mkF m (pc + 5) L [])) t → Steps p.tables e below (T.setTop (mkF m pc L (st.map (va (adr + ·))))) t := by
  obtain ⟨H, hFr, hK, hS⟩ := I
  obtain ⟨nF, hnF⟩ := LK.1.1
  obtain ⟨n, x, k, fe, tt, N, rfl, e1, e2, e3, e4, e5, rfl, e6, e7, e8⟩ := newF_spec h
  obtain ⟨htt, hac⟩ := LK.2.2.2.2.2.1 _ _ _ e4
  have hal := (List.getElem?_eq_some_iff.mp e4).1
  have hS' : T.heap.size = adr + 1 + c := hS
  have hty := ty_at htt
  have hini : meth.name = "<init>" := by rw [hnm]; exact LK.2.2.2.2.2.2.2.2.2.2.2.2 me hme
  have hLy : (Cond.lays P.nm P.nm fe.1 fe.2.1).before a0 Z = true ∨ ((Cond.laysFinal P.nm P.nm fe.1 fe.2.1).before a0 Z = true ∧ P.nm = P.nm ∧ meth.name = "<init>") := by
    have q := LK.2.2.1 k fe e3
    split at q
    · exact Or.inr ⟨q, rfl, hini⟩
    · exact Or.inl q
  have hzc := zs_succ P.al e4
  have hzm := zs_le P.al (c + 1)
  obtain ⟨T1, hp1, cA, X1, q1, E, A, st1⟩ := newP X hx hZ (aty := atOf tt) (by rw [hty]; exact hac) rfl (g := mkF m pc L [.int n, .ref adr]) rfl hd rfl (by rw [Int32.lt_iff_toInt_lt]; simp only [Int32.reduceToInt]; omega) (cap := N)
    (by simp only [Int32.toNatClampNeg]; omega) (by omega) (by simp only [co, cRoom, if_true]; omega) (by simp only [zo, cRoom, if_true]; omega)
  rw [hty] at A
  have hp := LK.2.2.2.1 k fe e3
  rw [e5] at hp
  obtain ⟨d2, -⟩ := hdec _ _ _ e1
  have hsz1 : hp1.size = adr + 1 + (c + 1) := by
    have hh : T1.heap.size ≤ s₀.heap.size + (c + 1) := X1.heapSize
    have g2 : T.heap.size < Array.size hp1 := A.lt
    rw [q1, hs0] at hh
    rw [hS'] at g2
    omega
  obtain ⟨T2, hp2, X2, q2, W, st2⟩ := putF X1 hx hZ hown (host := "") (Or.inl (LK.2.1 _ _ e2 _ e3)) Via.refl q1 ((H.2.1 k fe e3).ext E) (H.1.ext E) hLy hnF (v := .ref T.heap.size) hp rfl rfl (g := mkF m (pc + 2) L [.ref T.heap.size, .ref adr]) rfl rfl d2
  refine ⟨T2, _, by simpa [co, zo, hzc] using X2, ?_, fun t q => st1 _ (st2 _ q)⟩
  rw [q2]
  refine ⟨H.newArr LK e3 e5 e4 e6 e7 hS' E A W, Fr.snoc X2 hFr hna, ?_, by rw [W.size, hsz1]; simp⟩
  exact (hK.ext E (by rw [hsz1]; omega) (by omega)).wr W (Nat.le_refl _) (by omega)
end Steps
end Jvm.LM

namespace Jvm.LM
open Sem ClassFile Op Lib Jvm.Stand Jvm.Free Jvm.LawKit Jvm.RoadKit
theorem cret_spec {me : Me} {st : List Value} {i : Instr} {v : Option Value} (h : cret me st i = some v) :
    (∃ x, i = .ireturn ∧ st = [.int x] ∧ ((me.rt = 1 ∧ v = some (.int x)) ∨ (me.rt = 2 ∧ v = some (.int (x &&& 1))))) ∨ (∃ x, i = .lreturn ∧ st = [.long x] ∧ me.rt = 3 ∧ v = some (.long x)) ∨ (i = .return_ ∧ st = [] ∧ me.rt = 0 ∧ v = none) := by
  unfold cret at h
  split at h
  · split at h
    · rename_i x
      split at h
      · rename_i e1; cases h; exact Or.inl ⟨x, rfl, rfl, Or.inl ⟨e1, rfl⟩⟩
      · split at h
        · rename_i e1; cases h; exact Or.inl ⟨x, rfl, rfl, Or.inr ⟨e1, rfl⟩⟩
        · cases h
    · cases h
  · split at h
    · rename_i x
      split at h
      · rename_i e1; cases h; exact Or.inr (Or.inl ⟨x, rfl, rfl, e1, rfl⟩)
      · cases h
    · cases h
  · split at h
    · split at h
      · rename_i e1; cases h; exact Or.inr (Or.inr ⟨rfl, rfl, e1, rfl⟩)
      · cases h
    · cases h
  · cases h
section Ret
variable {p : Program} {l : Launch} {e : Env} {R : Room} {s₀ : State} {m : MethodId} {args : Array Value} {below : List Frame} {meth : Method} {cd : Code} {T : State} {locs : List Loc} {cells slots : Nat}
theorem retI' (X : Stand p l e R s₀ m args below meth cd T locs cells slots) (hx : p.tables.exec = Jvm.exec) {pc : Nat} {Ls : Array Slot} {z : Int32} {rest : List Value} (hret : meth.sig.returnType = some .int) (hd : decode cd.code pc = .ok (.ireturn, 1)) {fs : List Frame}
    (hl : ∀ (f : JFrame) (acts : List Action), f.method = m → f.locked = none → f.entered = [] → (doReturn e (T.setTop f) acts (some (.int z))).1 = T.setFrames fs) : Steps p.tables e below (T.setTop (mkF m pc Ls (.int z :: rest))) (T.setFrames fs) :=
  retOut X hx (t := .int) (i := .ireturn) hret rfl (Or.inl ⟨rfl, Or.inl rfl, z, rfl⟩) hd hl
theorem st_ret (X : Stand p l e R s₀ m args below meth cd T locs cells slots) (hx : p.tables.exec = Jvm.exec) {me : Me} (hret : meth.sig.returnType = retOf me.rt) (hlk : meth.locks = false) {ρ : Nat → Nat} {st : List Value} {i : Instr} {v : Option Value} (h : cret me st i = some v) {pc n : Nat} (hd : decode cd.code pc = .ok (i, n)) (hn : isSw i = true ∨ n = ilen i)
    {Q : Option Value → Heap → List Loc → Prop} (hQ : Q v T.heap locs) (hc : cells ≤ R.cells) (hs : slots ≤ R.slots) {L : Array Slot} : Don p e below s₀ R Q (T.setTop (mkF m pc L (st.map (va ρ)))) := by
  rcases cret_spec h with ⟨x, rfl, rfl, h1⟩ | ⟨x, rfl, rfl, h1, rfl⟩ | ⟨rfl, rfl, h1, rfl⟩
  · obtain rfl := hn.resolve_left Bool.false_ne_true
    rcases h1 with ⟨h1, rfl⟩ | ⟨h1, rfl⟩
    · rw [h1] at hret
      obtain ⟨fs, hr, hrun, hended, hW, hsame⟩ := X.leave (v := some (.int x)) (fun q => by rw [hret] at q; cases q) hlk
      exact ⟨_, _, retI' X hx hret hd hr, hrun, hended, _, _, rfl, hQ, ⟨_, rfl⟩, hW, hsame.mono hc hs⟩
    · rw [h1] at hret
      obtain ⟨fs, hr, hrun, hended, hW, hsame⟩ := X.leave (v := some (.int (x &&& 1))) (fun q => by rw [hret] at q; cases q) hlk
      exact ⟨_, _, retN X hx (t := .boolean) hret (Or.inl rfl) hd hr, hrun, hended, _, _, rfl, hQ, ⟨_, rfl⟩, hW, hsame.mono hc hs⟩
  · obtain rfl := hn.resolve_left Bool.false_ne_true
    rw [h1] at hret
    obtain ⟨fs, hr, hrun, hended, hW, hsame⟩ := X.leave (v := some (.long x)) (fun q => by rw [hret] at q; cases q) hlk
    exact ⟨_, _, retOut X hx (t := .long) (i := .lreturn) hret rfl (Or.inr (Or.inl ⟨rfl, rfl, x, rfl⟩)) hd hr, hrun, hended, _, _, rfl, hQ, ⟨_, rfl⟩, hW, hsame.mono hc hs⟩
  · obtain rfl := hn.resolve_left Bool.false_ne_true
    rw [h1] at hret
    obtain ⟨fs, hr, hrun, hended, hW, hsame⟩ := X.leave (v := none) (fun _ => rfl) hlk
    exact ⟨_, _, X.returnOut hx hret hd hr, hrun, hended, _, _, rfl, hQ, ⟨_, rfl⟩, hW, hsame.mono hc hs⟩
end Ret
theorem cret_va {me : Me} {st : List Value} {i : Instr} {v : Option Value} (h : cret me st i = some v) (ρ : Nat → Nat) : v.toList.map (va ρ) = v.toList := by
  rcases cret_spec h with ⟨x, rfl, rfl, ⟨-, rfl⟩ | ⟨-, rfl⟩⟩ | ⟨x, rfl, rfl, -, rfl⟩ | ⟨rfl, rfl, -, rfl⟩ <;> rfl
theorem nd_rev {ρ : Nat → Nat} {as : List Value} (h : nd as = true) : ∀ v ∈ (Value.ref 0 :: as.reverse), ∀ x, v ≠ .double x := fun v hv x e => by
  rcases List.mem_cons.mp hv with q | q
  · subst q; cases e
  · exact nd_spec h v (List.mem_reverse.mp q) x e
theorem pfld_va {P : Cl} {x : Nat} {ini : Bool} {w : Value} {s s1 : St} (hg : pfld P x ini w s = some s1) (ρ : Nat → Nat) : va ρ w = w := by
  cases w <;> first | rfl | skip
  exfalso
  unfold pfld at hg
  split at hg
  · cases hg
  · split at hg
    · cases hg
    · split at hg
      · cases hg
      · split at hg
        · rename_i q; cases q
        · rename_i q; cases q
        · rename_i q; cases q
        · cases hg
theorem cwalk {P : Cl} {Z : State} {a0 : Array Value} (LK : LinkC P Z a0) {n0 adr : Nat} (hna : n0 ≤ adr) : ∀ f mi me, asc P.ms mi = some me → CW P Z n0 adr f mi me := by
  intro f
  induction f with
  | zero =>
    intro mi me hme p l e s₀ m args below meth cd T locs h0 c pc ls st s v s' L hx hZ hown hnm hret hml hlk hs0 hdec hr
    cases hr
  | succ f ih =>
    intro mi me hme p l e s₀ m args below meth cd T locs h0 c pc ls st s v s' L hx hZ hown hnm hret hml hlk hs0 hdec hr X I hL hlen
    simp only [cexec] at hr
    split at hr
    · cases hr
    · rename_i i n hf
      obtain ⟨hd, hn⟩ := hdec pc i n hf
      have ihk := ih mi me hme
      have hsize : L.size = cd.maxLocals := by rw [hL.1, hlen, hml]
      obtain ⟨nF, hnF⟩ := LK.1.1
      unfold cstep at hr
      split at hr
      -- getfield
      · obtain rfl := hn.resolve_left Bool.false_ne_true
        split at hr
        · rename_i r
          split at hr
          · rename_i w hg
            obtain ⟨T', X', q1, st⟩ := st_get LK X hx hZ hown I.1 hg hd (L := L) (r := r.map (va (adr + ·)))
            exact Don.step st (ihk p l e s₀ m args below meth cd T' locs h0 c _ ls (w :: r) s v s' L hx hZ hown hnm hret hml hlk hs0 hdec hr X' (by rw [q1]; exact I) hL hlen)
          · cases hr
        · cases hr
      -- putfield
      · obtain rfl := hn.resolve_left Bool.false_ne_true
        split at hr
        · rename_i w r
          split at hr
          · rename_i s1 hg
            have hini : (mi == 0) = true → meth.name = "<init>" := fun q => by
              have q : mi = 0 := by simpa using q
              subst q; rw [hnm]; exact LK.2.2.2.2.2.2.2.2.2.2.2.2 me hme
            have hw : va (adr + ·) w = w := pfld_va hg _
            obtain ⟨T', locs', X', I', st⟩ := st_put LK X hx hZ hown hna I hini hg hd (L := L) (r := r.map (va (adr + ·)))
            refine Don.step (fun t q => ?_) (ihk p l e s₀ m args below meth cd T' locs' h0 c _ ls r s1 v s' L hx hZ hown hnm hret hml hlk hs0 hdec hr X' I' hL hlen)
            have := st t q
            rw [List.map_cons, hw]; exact this
          · cases hr
        · cases hr
      -- loads of arrays
      · obtain rfl := hn.resolve_left Bool.false_ne_true
        split at hr
        · rename_i st' hg
          exact Don.step (st_lda X hx hZ I.1 hg (Or.inl ⟨rfl, rfl⟩) hd) (ihk p l e s₀ m args below meth cd T locs h0 c _ ls st' s v s' L hx hZ hown hnm hret hml hlk hs0 hdec hr X I hL hlen)
        · cases hr
      · obtain rfl := hn.resolve_left Bool.false_ne_true
        split at hr
        · rename_i st' hg
          exact Don.step (st_lda X hx hZ I.1 hg (Or.inr (Or.inl ⟨rfl, rfl⟩)) hd) (ihk p l e s₀ m args below meth cd T locs h0 c _ ls st' s v s' L hx hZ hown hnm hret hml hlk hs0 hdec hr X I hL hlen)
        · cases hr
      · obtain rfl := hn.resolve_left Bool.false_ne_true
        split at hr
        · rename_i st' hg
          exact Don.step (st_lda X hx hZ I.1 hg (Or.inr (Or.inr ⟨rfl, rfl⟩)) hd) (ihk p l e s₀ m args below meth cd T locs h0 c _ ls st' s v s' L hx hZ hown hnm hret hml hlk hs0 hdec hr X I hL hlen)
        · cases hr
      -- stores into arrays
      · obtain rfl := hn.resolve_left Bool.false_ne_true
        split at hr
        · rename_i st' s1 hg
          obtain ⟨T', locs', X', I', st⟩ := st_sta X hx hZ hna I hg (Or.inl ⟨rfl, rfl⟩) hd (L := L)
          exact Don.step st (ihk p l e s₀ m args below meth cd T' locs' h0 c _ ls st' s1 v s' L hx hZ hown hnm hret hml hlk hs0 hdec hr X' I' hL hlen)
        · cases hr
      · obtain rfl := hn.resolve_left Bool.false_ne_true
        split at hr
        · rename_i st' s1 hg
          obtain ⟨T', locs', X', I', st⟩ := st_sta X hx hZ hna I hg (Or.inr (Or.inl ⟨rfl, rfl⟩)) hd (L := L)
          exact Don.step st (ihk p l e s₀ m args below meth cd T' locs' h0 c _ ls st' s1 v s' L hx hZ hown hnm hret hml hlk hs0 hdec hr X' I' hL hlen)
        · cases hr
      · obtain rfl := hn.resolve_left Bool.false_ne_true
        split at hr
        · rename_i st' s1 hg
          obtain ⟨T', locs', X', I', st⟩ := st_sta X hx hZ hna I hg (Or.inr (Or.inr ⟨rfl, rfl⟩)) hd (L := L)
          exact Don.step st (ihk p l e s₀ m args below meth cd T' locs' h0 c _ ls st' s1 v s' L hx hZ hown hnm hret hml hlk hs0 hdec hr X' I' hL hlen)
        · cases hr
      -- newarray and putfield
      · obtain rfl := hn.resolve_left Bool.false_ne_true
        split at hr
        · rename_i hg
          obtain ⟨rfl, hg⟩ := hg
          obtain ⟨T', locs', X', I', st⟩ := st_new LK hme hnm X hx hZ hown hna (hs0 rfl) I hdec hg hd (L := L)
          exact Don.step st (ihk p l e s₀ m args below meth cd T' locs' h0 (c + 1) _ ls [] s v s' L hx hZ hown hnm hret hml hlk hs0 hdec hr X' I' hL hlen)
        · cases hr
      -- constants
      · obtain rfl := hn.resolve_left Bool.false_ne_true
        split at hr
        · rename_i z hg
          exact Don.step (fun t q => X.ldcI hx hown (mv hZ (LK.2.2.2.2.2.2.1 _ _ hg)) (g := mkF m pc L (st.map (va (adr + ·)))) rfl hd q) (ihk p l e s₀ m args below meth cd T locs h0 c _ ls (.int z :: st) s v s' L hx hZ hown hnm hret hml hlk hs0 hdec hr X I hL hlen)
        · cases hr
      · obtain rfl := hn.resolve_left Bool.false_ne_true
        split at hr
        · rename_i z hg
          exact Don.step (fun t q => X.ldc2J hx hown (mv hZ (LK.2.2.2.2.2.2.1 _ _ hg)) (g := mkF m pc L (st.map (va (adr + ·)))) rfl hd q) (ihk p l e s₀ m args below meth cd T locs h0 c _ ls (.long z :: st) s v s' L hx hZ hown hnm hret hml hlk hs0 hdec hr X I hL hlen)
        · cases hr
      -- Object's constructor
      · obtain rfl := hn.resolve_left Bool.false_ne_true
        split at hr
        · rename_i r
          split at hr
          · rename_i hg
            obtain ⟨rfl, hg1, hg2⟩ := hg
            obtain ⟨w1, w2, w3⟩ := LK.2.2.2.2.2.2.2.1
            obtain ⟨T', X', q1, st⟩ := initO X hx hZ hown w1 w2 w3 rfl (g := mkF m pc L (.ref adr :: r.map (va (adr + ·)))) rfl hsize rfl hd hg1 (W := cats r) (by show 2 * 0 + _ ≤ _; rw [cats_va]; omega) hg2
            exact Don.step st (ihk p l e s₀ m args below meth cd T' locs h0 c _ ls r s v s' L hx hZ hown hnm hret hml hlk hs0 hdec hr X' (by rw [q1]; exact I) hL hlen)
          · cases hr
        · cases hr
      -- a call
      · obtain rfl := hn.resolve_left Bool.false_ne_true
        split at hr
        · cases hr
        · rename_i m' hm'
          split at hr
          · cases hr
          · rename_i me' hme'
            split at hr
            · rename_i r hst
              split at hr
              · rename_i hg
                obtain ⟨hg0, hg1, hg2, hg3⟩ := hg
                dsimp only at hr
                rw [hme'] at hr
                dsimp only at hr
                obtain ⟨bytes, ps, hcode, hdec', hpar, hpl⟩ := LK.2.2.2.2.2.2.2.2.1 m' me' hme'
                obtain ⟨w1, w2, w3⟩ := LK.2.2.2.2.2.2.2.2.2.1 _ _ hm' _ hme'
                by_cases hla : (layA (Value.ref 0 :: (st.take me'.na).reverse)).length ≤ me'.ml
                · rw [if_pos hla] at hr
                  cases hcl : cexec P f m' me' c 0 (lay (.ref 0 :: (st.take me'.na).reverse) me'.ml) [] s with
                  | none => rw [hcl] at hr; cases hr
                  | some vs =>
                    obtain ⟨w, s1⟩ := vs
                    rw [hcl] at hr
                    have hr' : cexec P f mi me c (pc + 3) ls (w.toList ++ r) s1 = some (v, s') := by cases w <;> exact hr
                    have hM := met_of_CW LK hme' (ih m' me' hme') l hdec' (as := .ref 0 :: (st.take me'.na).reverse) (nd_rev (ρ := id) hg3) hla hcl (fun q => absurd q hg0) I.1 (fun q => absurd q hg0)
                    have hB := backOf (R := cRoom P mi me) (p := p) (e := e) (below := below) (s := s₀) (args := args) (len := 3) (W := cats r) hM hZ hcode LK.1.2 hg1 hg2
                    have hdl : me'.na < st.length := by
                      have := congrArg List.length hst
                      simp at this; omega
                    have hsp : st = st.take me'.na ++ .ref 0 :: r := by rw [← hst, List.take_append_drop]
                    have hcell := I.1.1.cell
                    obtain ⟨cel, hc1, hc2⟩ := hcell
                    have key : ∃ (v' : Option Value) (U : State) (Lc : List Loc), Stand p l e (cRoom P mi me) s₀ m args below meth cd U (locs ++ Lc) (co mi c) (zo P mi c) ∧ QC P Z n0 adr m' c w s1 T.heap v' U.heap Lc ∧
                        Steps p.tables e below (T.setTop (mkF m pc L (st.map (va (adr + ·))))) (U.setTop (mkF m (pc + 3) L (v'.toList ++ r.map (va (adr + ·))))) := by
                      have hsm : st.map (va (adr + ·)) = ((st.take me'.na).reverse.map (va (adr + ·))).reverse ++ .ref adr :: r.map (va (adr + ·)) := by
                        conv => lhs; rw [hsp]
                        simp [va]
                      have hll : ∀ sig, parseMethodDescriptor (yOf P me').desc = some sig → ((st.take me'.na).reverse.map (va (adr + ·))).length = sig.parameters.length := lenOf hpar (by simp [hpl]; omega)
                      have hpre : ∀ vm₁, s₀.WarmedH vm₁ → ((Value.ref adr :: (st.take me'.na).reverse.map (va (adr + ·))).toArray = ((Value.ref 0 :: (st.take me'.na).reverse).map (va (adr + ·))).toArray ∧ (T.setVm vm₁).heap = T.heap ∧ co mi c + (cRoom P m' me').cells ≤ (cRoom P mi me).cells ∧ zo P mi c + (cRoom P m' me').slots ≤ (cRoom P mi me).slots) := fun vm₁ _ => by
                        refine ⟨by simp [va], rfl, ?_, ?_⟩
                        · simp only [co, cRoom, if_neg hg0]
                          have := I.1.2.2.2.2
                          split <;> omega
                        · simp only [zo, cRoom, if_neg hg0]
                          have := zs_le P.al c
                          split <;> omega
                      have hz1 : (cRoom P m' me').cells = 0 := by simp [cRoom, hg0]
                      have hz2 : (cRoom P m' me').slots = 0 := by simp [cRoom, hg0]
                      rcases w3 with w3 | ⟨w3, w4⟩
                      · obtain ⟨v', vm₁, ⟨U, lo, ce, sl⟩, -, X', ⟨Lc, hQ, l1, l2, l3⟩, stp⟩ := privCall X hx (y := yOf P me') hown (mv hZ w1) (mv hZ w2) (nF := nF) (mv hZ hnF) (Cond.privateMethod_at (mvP hZ w3 (args := args))) (mv hZ hcode) LK.2.2.2.2.2.2.2.2.2.2.2.1 hB (g := mkF m pc L (st.map (va (adr + ·)))) rfl hsize hc1 hc2 hll hsm (by show 2 * 0 + _ ≤ _; rw [cats_va]; omega) hd hpre
                        dsimp only [Pt.U, Pt.locs, Pt.cells, Pt.slots] at X' hQ l1 l2 l3 stp
                        subst l1 l2 l3
                        rw [hz1, hz2] at X'
                        exact ⟨v', U, Lc, X', hQ, stp⟩
                      · obtain ⟨cq, kq, qa, qb, qc⟩ := isOf hZ rfl I.1.1
                        obtain ⟨v', vm₁, ⟨U, lo, ce, sl⟩, -, X', ⟨Lc, hQ, l1, l2, l3⟩, stp⟩ := X.virtualBack hx (y := yOf P me') (z := yOf P me') hown (mv hZ w1) (mv hZ w3) (notFace_of_selects (args := #[]) (mv hZ w4)) (mv hZ w4) (mv hZ w2) LK.2.2.2.2.2.2.2.2.2.2.2.1 hB qa qc (g := mkF m pc L (st.map (va (adr + ·)))) rfl hsize (Steps.refl _) hll hsm (by show 2 * 0 + _ ≤ _; rw [cats_va]; omega) hd hpre
                        dsimp only [Pt.U, Pt.locs, Pt.cells, Pt.slots] at X' hQ l1 l2 l3 stp
                        subst l1 l2 l3
                        rw [hz1, hz2] at X'
                        exact ⟨v', U, Lc, X', hQ, stp⟩
                    obtain ⟨v', U, Lc, X', ⟨⟨rfl, hva⟩, hF', hH', hK', hS'⟩, stp⟩ := key
                    rw [if_neg hg0] at hH' hS'
                    refine Don.step (fun t q => stp.trans ?_) (ihk p l e s₀ m args below meth cd U (locs ++ Lc) h0 c _ ls (v'.toList ++ r) s1 v s' L hx hZ hown hnm hret hml hlk hs0 hdec hr' X' ⟨hH', I.2.1.app hF', I.2.2.1.trans hK', by rw [hS']; exact I.2.2.2⟩ hL hlen)
                    rw [List.map_append, hva] at q; exact q
                · rw [if_neg hla] at hr; cases hr
              · cases hr
            · cases hr
      -- the rest
      · split at hr
        · split at hr
          · cases hr
          · rename_i h1 hcf
            split at hr
            · rename_i w hw
              cases hr
              have hcf' : mi = 0 → c = P.al.length := fun q => Classical.byContradiction fun z => hcf ⟨q, z⟩
              have hA : HRep P Z T.heap adr (if mi = 0 then P.al.length else c) s := by
                by_cases q : mi = 0
                · rw [if_pos q, ← hcf' q]; exact I.1
                · rw [if_neg q]; exact I.1
              have hB : Array.size T.heap = if mi = 0 then adr + 1 + P.al.length else Array.size h0 := by
                rw [I.2.2.2]
                by_cases q : mi = 0
                · rw [if_pos q, if_pos q, ← hcf' q]
                · rw [if_neg q, if_neg q]
              have hC : co mi c ≤ (cRoom P mi me).cells := by
                simp only [co, cRoom]
                by_cases q : mi = 0
                · rw [if_pos q, if_pos q, ← hcf' q]; exact Nat.le_refl _
                · rw [if_neg q, if_neg q]; exact Nat.le_refl _
              have hD : zo P mi c ≤ (cRoom P mi me).slots := by
                simp only [zo, cRoom]
                by_cases q : mi = 0
                · rw [if_pos q, if_pos q]; exact zs_le _ _
                · rw [if_neg q, if_neg q]; exact Nat.le_refl _
              exact st_ret X hx hret hlk hw hd hn ⟨⟨rfl, cret_va hw⟩, I.2.1, hA, I.2.2.1, hB⟩ hC hD
            · cases hr
        · split at hr
          · rename_i pc' ls' st' hp
            obtain ⟨L', hL', hLs, st⟩ := pstep_sound X hx hp hd hn hL
            have hlen' : ls'.length = me.ml := by rw [← hL'.1, hLs, hL.1]; exact hlen
            exact Don.step st (ihk p l e s₀ m args below meth cd T locs h0 c _ ls' st' s v s' L' hx hZ hown hnm hret hml hlk hs0 hdec hr X I hL' hlen')
          · cases hr
end Jvm.LM

namespace Jvm.LM
open Sem ClassFile Op Lib Jvm.Stand Jvm.Free Jvm.LawKit Jvm.RoadKit
/-! the law's machine: several objects of the class, and one array of ints that it only reads -/
/-- class name, pool to own static method, pool to the class's method, pool index of the constructor, of the class, number of its fields, constants, methods, room: cells, slots -/
abbrev Lw := String × List (Nat × Nat) × List (Nat × Nat) × Nat × Nat × Nat × List (Nat × Value) × List (Nat × Me) × Nat × Nat
def Lw.nm (Q : Lw) : String := Q.1
def Lw.sx (Q : Lw) : List (Nat × Nat) := Q.2.1
def Lw.vx (Q : Lw) : List (Nat × Nat) := Q.2.2.1
def Lw.ci (Q : Lw) : Nat := Q.2.2.2.1
def Lw.cx (Q : Lw) : Nat := Q.2.2.2.2.1
def Lw.nf (Q : Lw) : Nat := Q.2.2.2.2.2.1
def Lw.kx (Q : Lw) : List (Nat × Value) := Q.2.2.2.2.2.2.1
def Lw.ms (Q : Lw) : List (Nat × Me) := Q.2.2.2.2.2.2.2.1
def Lw.rc (Q : Lw) : Nat := Q.2.2.2.2.2.2.2.2.1
def Lw.rs (Q : Lw) : Nat := Q.2.2.2.2.2.2.2.2.2
/-- the objects, how many are made, whether one more is being made -/
abbrev Wd := (Nat → St) × Nat × Bool
abbrev Sc := Option (Nat × (Nat → Int32))
abbrev Rw := Option (Option Value × Wd)
def nr : List Value → Bool
  | [] => true
  | .int _ :: r => nr r
  | .long _ :: r => nr r
  | _ => false
theorem nr_map {l : List Value} (h : nr l = true) (ρ : Nat → Nat) : l.map (va ρ) = l := by
  induction l with
  | nil => rfl
  | cons v r ih => cases v <;> first | (simp only [nr] at h; simp [va, ih h]; done) | (simp [nr] at h)
theorem nr_nd {l : List Value} (h : nr l = true) : nd l = true := by
  induction l with
  | nil => rfl
  | cons v r ih => cases v <;> first | (simp only [nr] at h; simp [nd, ih h]; done) | (simp [nr] at h)
def uo (w : Nat → St) (o : Nat) (s : St) : Nat → St := fun i => if i = o then s else w i
def lstep {α : Type} (P : Cl) (Q : Lw) (sc : Sc) (mi : Nat) (me : Me) (rt : Option Value → Wd → Option α) (cc : Nat → Nat → List Value → St → Rs) (cl : Nat → List Value → Wd → Rw) (k : Nat → Lv → List Value → Wd → Option α) (i : Instr) (pc : Nat) (ls : Lv) (st : List Value) (w : Wd) : Option α :=
  match i with
  | .iaload => match sc, st with
    | some (n, g), .int j :: .ref 0 :: r => if inb n j then k (pc + 1) ls (.int (g (ix j)) :: r) w else none
    | _, _ => none
  | .arraylength => match sc, st with
    | some (n, _), .ref 0 :: r => k (pc + 1) ls (.int (Int32.ofNat n) :: r) w
    | _, _ => none
  | .ldc x => match asc Q.kx x with | some (.int z) => k (pc + 2) ls (.int z :: st) w | _ => none
  | .ldc2_w x => match asc Q.kx x with | some (.long z) => k (pc + 3) ls (.long z :: st) w | _ => none
  | .new x => if mi = 0 ∧ x = Q.cx ∧ w.2.2 = false ∧ (w.2.1 + 1) * (P.al.length + 1) ≤ Q.rc ∧ (w.2.1 + 1) * (Q.nf + zs P.al P.al.length) ≤ Q.rs then
      k (pc + 3) ls (.ref (w.2.1 + 1) :: st) (uo w.1 w.2.1 s0, w.2.1, true) else none
  | .invokespecial x => match asc P.ms 0 with
    | none => none
    | some me' => match st.drop me'.na with
      | .ref (o + 1) :: r => if x = Q.ci ∧ mi = 0 ∧ o = w.2.1 ∧ w.2.2 = true ∧ me'.rf + 1 ≤ me.rf ∧ cats r + (me'.ml + 11) + me'.rl ≤ me.rl ∧ nr (st.take me'.na) = true ∧ (w.2.1 + 1) * (P.al.length + 1) ≤ Q.rc ∧ (w.2.1 + 1) * (Q.nf + zs P.al P.al.length) ≤ Q.rs then
          (match cc 0 0 (.ref 0 :: (st.take me'.na).reverse) (w.1 o) with
           | some (none, s') => k (pc + 3) ls r (uo w.1 o s', w.2.1 + 1, false)
           | _ => none) else none
      | _ => none
  | .invokevirtual x => match asc Q.vx x with
    | none => none
    | some m' => match asc P.ms m' with
      | none => none
      | some me' => match st.drop me'.na with
        | .ref (o + 1) :: r => if m' ≠ 0 ∧ o < w.2.1 ∧ me'.rf + 1 ≤ me.rf ∧ cats r + (me'.ml + 11) + me'.rl ≤ me.rl ∧ nr (st.take me'.na) = true then
            (match cc m' P.al.length (.ref 0 :: (st.take me'.na).reverse) (w.1 o) with
             | some (none, s') => k (pc + 3) ls r (uo w.1 o s', w.2.1, w.2.2)
             | some (some v, s') => k (pc + 3) ls (v :: r) (uo w.1 o s', w.2.1, w.2.2)
             | none => none) else none
        | _ => none
  | .invokestatic x => match asc Q.sx x with
    | none => none
    | some m' => match asc Q.ms m' with
      | none => none
      | some me' => if m' ≠ 0 ∧ me'.na ≤ st.length ∧ me'.rf + 1 ≤ me.rf ∧ cats (st.drop me'.na) + (me'.ml + 11) + me'.rl ≤ me.rl ∧ nd (st.take me'.na) = true then
          (match cl m' (st.take me'.na).reverse w with
           | some (none, w') => k (pc + 3) ls (st.drop me'.na) w'
           | some (some v, w') => k (pc + 3) ls (v :: st.drop me'.na) w'
           | none => none) else none
  | i => if isRet i = true then (match cret me st i with | some v => rt v w | none => none)
    else match pstep i pc ls st with | some (pc', ls', st') => k pc' ls' st' w | none => none
def lexec (P : Cl) (Q : Lw) (sc : Sc) : Nat → Nat → Me → Nat → Lv → List Value → Wd → Rw
  | 0, _, _, _, _, _, _ => none
  | f + 1, mi, me, pc, ls, st, w => match fetch me.cd pc with
    | none => none
    | some (i, _) => lstep P Q sc mi me (fun v w => some (v, w)) (ccall P f) (fun m' as w => match asc Q.ms m' with | some me' => (if (layA as).length ≤ me'.ml then lexec P Q sc f m' me' 0 (lay as me'.ml) [] w else none) | none => none) (lexec P Q sc f mi me) i pc ls st w
theorem lexec_cnt {P : Cl} {Q : Lw} {sc : Sc} : ∀ f mi me pc ls st w v w', mi ≠ 0 → lexec P Q sc f mi me pc ls st w = some (v, w') → w'.2 = w.2 := by
  intro f
  induction f with
  | zero => intro mi me pc ls st w v w' _ h; cases h
  | succ f ih =>
    intro mi me pc ls st w v w' h0 h
    simp only [lexec] at h
    split at h
    · cases h
    · unfold lstep at h
      split at h
      · split at h
        · split at h
          · exact ih _ _ _ _ _ _ _ _ h0 h
          · cases h
        · cases h
      · split at h
        · exact ih _ _ _ _ _ _ _ _ h0 h
        · cases h
      · split at h
        · exact ih _ _ _ _ _ _ _ _ h0 h
        · cases h
      · split at h
        · exact ih _ _ _ _ _ _ _ _ h0 h
        · cases h
      · split at h
        · rename_i q; exact absurd q.1 h0
        · cases h
      · split at h
        · cases h
        · split at h
          · split at h
            · rename_i q; exact absurd q.2.1 h0
            · cases h
          · cases h
      · split at h
        · cases h
        · split at h
          · cases h
          · split at h
            · split at h
              · split at h
                · exact (ih _ _ _ _ _ _ _ _ h0 h).trans rfl
                · exact (ih _ _ _ _ _ _ _ _ h0 h).trans rfl
                · cases h
              · cases h
            · cases h
      · split at h
        · cases h
        · split at h
          · cases h
          · rename_i me' hme'
            split at h
            · rename_i hg
              dsimp only at h
              rw [hme'] at h
              dsimp only at h
              split at h
              · rename_i w2 hc
                split at hc
                · exact (ih _ _ _ _ _ _ _ _ h0 h).trans (ih _ _ _ _ _ _ _ _ hg.1 hc)
                · cases hc
              · rename_i u w2 hc
                split at hc
                · exact (ih _ _ _ _ _ _ _ _ h0 h).trans (ih _ _ _ _ _ _ _ _ hg.1 hc)
                · cases hc
              · cases h
            · cases h
      · split at h
        · split at h
          · cases h; rfl
          · cases h
        · split at h
          · exact ih _ _ _ _ _ _ _ _ h0 h
          · cases h
def lcall (P : Cl) (Q : Lw) (sc : Sc) (f m' : Nat) (as : List Value) (w : Wd) : Rw := match asc Q.ms m' with | some me' => (if (layA as).length ≤ me'.ml then lexec P Q sc f m' me' 0 (lay as me'.ml) [] w else none) | none => none
def zOf (Q : Lw) (me : Me) : MethodName := ⟨Q.nm, me.nm, me.ds⟩
def LinkL (P : Cl) (Q : Lw) (Z : State) (a0 : Array Value) : Prop :=
  ((Cond.classLink Q.nm Q.cx P.nm).before a0 Z = true ∧ (Cond.instantiable P.nm Q.nf).before a0 Z = true) ∧
  (∀ me, asc P.ms 0 = some me → (Cond.methodLink Q.nm Q.ci (yOf P me)).before a0 Z = true ∧ (Cond.instanceMethod (yOf P me)).before a0 Z = true ∧ me.rt = 0) ∧
  (∀ x m', asc Q.vx x = some m' → ∀ me, asc P.ms m' = some me → (Cond.methodLink Q.nm x (yOf P me)).before a0 Z = true ∧ (Cond.declares (yOf P me)).before a0 Z = true ∧ (Cond.instanceMethod (yOf P me)).before a0 Z = true ∧ (Cond.selects P.nm (yOf P me) (yOf P me)).before a0 Z = true) ∧
  (∀ x m', asc Q.sx x = some m' → ∀ me, asc Q.ms m' = some me → (Cond.methodLink Q.nm x (zOf Q me)).before a0 Z = true ∧ (Cond.static (zOf Q me)).before a0 Z = true ∧ (Cond.initialized Q.nm).before a0 Z = true) ∧
  (∀ x v, asc Q.kx x = some v → match v with
    | .int z => (Cond.constant Q.nm x z).before a0 Z = true
    | .long z => (Cond.constantLong Q.nm x z).before a0 Z = true
    | _ => True) ∧
  (∀ mi me, asc Q.ms mi = some me → mi ≠ 0 → ∃ (bytes : ByteArray) (ps : List FieldType), (Cond.code (zOf Q me) bytes me.ml (retOf me.rt)).before a0 Z = true ∧
    (∀ pc i n, fetch me.cd pc = some (i, n) → decode bytes pc = .ok (i, n) ∧ (isSw i = true ∨ n = ilen i)) ∧ parseMethodDescriptor me.ds = some ⟨ps, retOf me.rt⟩ ∧ ps.length = me.na) ∧
  plainName Q.nm = true ∧ (Q.nm ≠ "java/lang/invoke/MethodHandle" ∧ Q.nm ≠ "java/lang/invoke/VarHandle")
def rho (a n0 K : Nat) : Nat → Nat
  | 0 => a
  | o + 1 => n0 + o * K
def SRep (Z : State) (h : Heap) (a n0 : Nat) (sc : Sc) : Prop :=
  match sc with
  | none => True
  | some (n, g) => a < n0 ∧ ∃ cl : Cell, Arr Z h a cl .int ∧ cl.slots.size = n ∧ ∀ i, i < n → cl.slots[i]? = some (.int (g i))
def LRep (P : Cl) (Z : State) (h : Heap) (a n0 : Nat) (sc : Sc) (w : Wd) : Prop :=
  SRep Z h a n0 sc ∧ (∀ o, o < w.2.1 → HRep P Z h (n0 + o * (P.al.length + 1)) P.al.length (w.1 o)) ∧
  (w.2.2 = true → HRep P Z h (n0 + w.2.1 * (P.al.length + 1)) 0 (w.1 w.2.1)) ∧ h.size = n0 + w.2.1 * (P.al.length + 1) + (if w.2.2 = true then 1 else 0)
def lRoom (Q : Lw) (mi : Nat) (me : Me) : Room := { frames := me.rf, cells := if mi = 0 then Q.rc else 0, slots := if mi = 0 then Q.rs else 0, locals := me.rl }
def QL (P : Cl) (Z : State) (a n0 : Nat) (sc : Sc) (v : Option Value) (w' : Wd) (u : Option Value) (h : Heap) (L : List Loc) : Prop :=
  (u = v ∧ ∀ ρ, u.toList.map (va ρ) = u.toList) ∧ Fr n0 L ∧ LRep P Z h a n0 sc w'
def lco (P : Cl) (mi : Nat) (w : Wd) : Nat := if mi = 0 then w.2.1 * (P.al.length + 1) + (if w.2.2 = true then 1 else 0) else 0
def lzo (P : Cl) (Q : Lw) (mi : Nat) (w : Wd) : Nat := if mi = 0 then w.2.1 * (Q.nf + zs P.al P.al.length) + (if w.2.2 = true then Q.nf else 0) else 0
def LW (P : Cl) (Q : Lw) (sc : Sc) (Z : State) (a n0 f mi : Nat) (me : Me) : Prop :=
  ∀ (p : Program) (l : Launch) (e : Env) (s₀ : State) (m : MethodId) (args : Array Value) (below : List Frame) (meth : Method) (cd : Code) (T : State) (locs : List Loc) (pc : Nat) (ls : Lv) (st : List Value) (w : Wd) (v : Option Value) (w' : Wd) (L : Array Slot),
    p.tables.exec = Jvm.exec → Z.Warmed39 s₀.vm → s₀.vm.findClass Q.nm = some m.cls → meth.sig.returnType = retOf me.rt → cd.maxLocals = me.ml → meth.locks = false → (mi = 0 → s₀.heap.size = n0) →
    (∀ pc i n, fetch me.cd pc = some (i, n) → decode cd.code pc = .ok (i, n) ∧ (isSw i = true ∨ n = ilen i)) →
    lexec P Q sc f mi me pc ls st w = some (v, w') →
    Stand p l e (lRoom Q mi me) s₀ m args below meth cd T locs (lco P mi w) (lzo P Q mi w) → w.2.1 * (P.al.length + 1) + (if w.2.2 = true then 1 else 0) ≤ (lRoom Q 0 me).cells → w.2.1 * (Q.nf + zs P.al P.al.length) + (if w.2.2 = true then Q.nf else 0) ≤ (lRoom Q 0 me).slots →
    LRep P Z T.heap a n0 sc w → Fr n0 locs → LR (rho a n0 (P.al.length + 1)) ls L → ls.length = me.ml →
    Don p e below s₀ (lRoom Q mi me) (QL P Z a n0 sc v w') (T.setTop (mkF m pc L (st.map (va (rho a n0 (P.al.length + 1))))))
theorem met_of_LW {P : Cl} {Q : Lw} {sc : Sc} {Z : State} {a0 : Array Value} (LL : LinkL P Q Z a0) {a n0 f mi : Nat} {me : Me} (hW : LW P Q sc Z a n0 f mi me) (hmi : mi ≠ 0) (l : Launch) {bytes : ByteArray}
    (hdec : ∀ pc i n, fetch me.cd pc = some (i, n) → decode bytes pc = .ok (i, n) ∧ (isSw i = true ∨ n = ilen i))
    {as : List Value} (hd : ∀ v ∈ as, ∀ x, v ≠ .double x) (hlen : (layA as).length ≤ me.ml) {w w' : Wd} {v : Option Value} {h : Heap} (hr : lexec P Q sc f mi me 0 (lay as me.ml) [] w = some (v, w'))
    (hc1 : w.2.1 * (P.al.length + 1) + (if w.2.2 = true then 1 else 0) ≤ Q.rc) (hc2 : w.2.1 * (Q.nf + zs P.al P.al.length) + (if w.2.2 = true then Q.nf else 0) ≤ Q.rs)
    (H : LRep P Z h a n0 sc w) :
    MetFree l (zOf Q me) (head1 [Cond.code (zOf Q me) bytes me.ml (retOf me.rt)] (lRoom Q mi me)) (fun b U => b = (as.map (va (rho a n0 (P.al.length + 1)))).toArray ∧ Z.Warmed39 U.vm ∧ U.heap = h) (fun _ _ _ _ _ => True)
      (fun _ U o U' => ∃ u L, o = .returned u ∧ QL P Z a n0 sc v w' u U'.heap L ∧ FrameEnd U o U' L (lRoom Q mi me).cells (lRoom Q mi me).slots) := by
  refine MetFree.of_bodySF (plainFor_of_name LL.2.2.2.2.2.2.1) hisR ?_
  intro p e s₀ m args below meth cd s₁ Bd hml hP hK
  obtain ⟨rfl, hZ, hh⟩ := hP
  have e0 : s₁.heap = h := by rw [← hh, Bd.state]; rfl
  have X0 : Stand p l e (lRoom Q mi me) s₀ m _ below meth cd s₁ [] 0 0 := Stand.of_body Bd
  have hown : s₀.vm.findClass Q.nm = some m.cls := findClass_of_methodNamed Bd.named
  have hk0 : lco P mi w = 0 := by simp [lco, hmi]
  have hz0 : lzo P Q mi w = 0 := by simp [lzo, hmi]
  have D := hW p l e s₀ m _ below meth cd s₁ [] 0 (lay as me.ml) [] w v w' _ Bd.exec hZ hown Bd.returns hml Bd.notSynchronized (fun q => absurd q hmi)
    (fun pc i n q => by rw [Bd.bytes]; exact hdec pc i n q) hr (by rw [hk0, hz0]; exact X0) (by simpa [lRoom] using hc1) (by simpa [lRoom] using hc2) (by rw [e0]; exact H) (Fr.nil n0) (lay_LR hd hlen) (lay_len hlen)
  obtain ⟨s₂, o, a1, a2, a3, u, L, a4, a5, a6⟩ := D
  exact ⟨s₂, o, a1, a2, a3, u, L, a4, a5, a6⟩
end Jvm.LM

namespace Jvm.LM
open Sem ClassFile Op Lib Jvm.Stand Jvm.Free Jvm.LawKit Jvm.RoadKit
theorem rng {a b K : Nat} (h : a < b) : a * K + K ≤ b * K := by
  have := Nat.mul_le_mul_right K (show a + 1 ≤ b from h)
  rw [Nat.succ_mul] at this; exact this
theorem SRep.congr {Z : State} {h h' : Heap} {a n0 : Nat} {sc : Sc} (H : SRep Z h a n0 sc) (e : ∀ x, x < n0 → h'[x]? = h[x]?) : SRep Z h' a n0 sc := by
  unfold SRep at H ⊢
  split
  · trivial
  · obtain ⟨h1, cl, ⟨q1, q2⟩, q3⟩ := H
    exact ⟨h1, cl, ⟨by rw [e a h1]; exact q1, q2⟩, q3⟩
/-- one object has moved, the others stand -/
theorem LRep.call {P : Cl} {Z : State} {h h' : Heap} {a n0 o : Nat} {sc : Sc} {w : Wd} {s' : St} (H : LRep P Z h a n0 sc w) (ho : o < w.2.1) (K : Kp h h' (n0 + o * (P.al.length + 1)) P.al.length) (hs : h'.size = h.size) (H' : HRep P Z h' (n0 + o * (P.al.length + 1)) P.al.length s') :
    LRep P Z h' a n0 sc (uo w.1 o s', w.2.1, w.2.2) := by
  obtain ⟨h1, h2, h3, h4⟩ := H
  refine ⟨h1.congr fun x hx => K x (Or.inl (by omega)), fun o' ho' => ?_, fun q => ?_, by rw [hs]; exact h4⟩
  · by_cases e : o' = o
    · subst e; simpa [uo] using H'
    · have := (h2 o' ho').congr (h' := h') fun x hx1 hx2 => K x (by
        rcases Nat.lt_or_gt_of_ne e with q | q
        · have := rng (K := P.al.length + 1) q; omega
        · have := rng (K := P.al.length + 1) q; omega)
      simpa [uo, e] using this
  · have e : w.2.1 ≠ o := by omega
    have := (h3 q).congr (h' := h') fun x hx1 hx2 => K x (by have := rng (K := P.al.length + 1) ho; omega)
    simpa [uo, e] using this
theorem ar1 {x k r y : Nat} (e : y = x + (k + 1)) (h : y ≤ r) : x + 1 + k ≤ r := by omega
theorem ar3 {x k y : Nat} (h : y = x + (k + 1)) : y + 0 = x + 1 + k := by omega
theorem ar4 {x f z y : Nat} (h : y = x + (f + z)) : y + 0 = x + f + z := by omega
theorem ar5 {x f z r y : Nat} (e : y = x + (f + z)) (h : y ≤ r) : x + f + z ≤ r := by omega
theorem ar6 {n x k y : Nat} (h : y = x + (k + 1)) : n + x + 1 + k = n + y + 0 := by omega
theorem lwalk {P : Cl} {Q : Lw} {sc : Sc} {Z : State} {a0 : Array Value} (LK : LinkC P Z a0) (LL : LinkL P Q Z a0) {a n0 : Nat} : ∀ f mi me, asc Q.ms mi = some me → LW P Q sc Z a n0 f mi me := by
  intro f
  induction f with
  | zero =>
    intro mi me hme p l e s₀ m args below meth cd T locs pc ls st w v w' L hx hZ hown hret hml hlk hs0 hdec hr
    cases hr
  | succ f ih =>
    intro mi me hme p l e s₀ m args below meth cd T locs pc ls st w v w' L hx hZ hown hret hml hlk hs0 hdec hr X hc1 hc2 I hFr hL hlen
    simp only [lexec] at hr
    split at hr
    · cases hr
    · rename_i i n hf
      obtain ⟨hd, hn⟩ := hdec pc i n hf
      have ihk := ih mi me hme
      have hsize : L.size = cd.maxLocals := by rw [hL.1, hlen, hml]
      unfold lstep at hr
      split at hr
      -- iaload
      · obtain rfl := hn.resolve_left Bool.false_ne_true
        split at hr
        · rename_i N g j r
          split at hr
          · rename_i hin
            obtain ⟨ha, cl, A, hN, hv⟩ : SRep Z T.heap a n0 (some (N, g)) := I.1
            refine Don.step (fun t q => ?_) (ihk p l e s₀ m args below meth cd T locs _ ls (.int (g (ix j)) :: r) w v w' L hx hZ hown hret hml hlk hs0 hdec hr X hc1 hc2 I hFr hL hlen)
            exact X.iaload hx A.1 (State.isArrayOf_alike hZ.alike A.2.1) A.2.2 (by rw [hN]; exact inb_not hin) (hv (ix j) (inb_ix hin)) (g := mkF m pc L (.int j :: .ref a :: r.map (va (rho a n0 (P.al.length + 1))))) rfl rfl hd t q
          · cases hr
        · cases hr
      -- arraylength
      · obtain rfl := hn.resolve_left Bool.false_ne_true
        split at hr
        · rename_i N g r
          obtain ⟨ha, cl, A, hN, hv⟩ : SRep Z T.heap a n0 (some (N, g)) := I.1
          refine Don.step (fun t q => ?_) (ihk p l e s₀ m args below meth cd T locs _ ls (.int (Int32.ofNat N) :: r) w v w' L hx hZ hown hret hml hlk hs0 hdec hr X hc1 hc2 I hFr hL hlen)
          exact X.arraylength hx A.1 (State.isArrayOf_alike hZ.alike A.2.1) (g := mkF m pc L (.ref a :: r.map (va (rho a n0 (P.al.length + 1))))) rfl rfl hd t (by rw [hN]; exact q)
        · cases hr
      -- constants
      · obtain rfl := hn.resolve_left Bool.false_ne_true
        split at hr
        · rename_i z hg
          exact Don.step (fun t q => X.ldcI hx hown (mv hZ (LL.2.2.2.2.1 _ _ hg)) (g := mkF m pc L (st.map (va (rho a n0 (P.al.length + 1))))) rfl hd q) (ihk p l e s₀ m args below meth cd T locs _ ls (.int z :: st) w v w' L hx hZ hown hret hml hlk hs0 hdec hr X hc1 hc2 I hFr hL hlen)
        · cases hr
      · obtain rfl := hn.resolve_left Bool.false_ne_true
        split at hr
        · rename_i z hg
          exact Don.step (fun t q => X.ldc2J hx hown (mv hZ (LL.2.2.2.2.1 _ _ hg)) (g := mkF m pc L (st.map (va (rho a n0 (P.al.length + 1))))) rfl hd q) (ihk p l e s₀ m args below meth cd T locs _ ls (.long z :: st) w v w' L hx hZ hown hret hml hlk hs0 hdec hr X hc1 hc2 I hFr hL hlen)
        · cases hr
      -- new
      · obtain rfl := hn.resolve_left Bool.false_ne_true
        split at hr
        · rename_i hg
          obtain ⟨rfl, rfl, hp, hg1, hg2⟩ := hg
          obtain ⟨os, cnt, pend⟩ := w
          dsimp only at hp hg1 hg2 hr
          subst hp
          have hk : lco P 0 (os, cnt, false) = cnt * (P.al.length + 1) := by simp [lco]
          have hz : lzo P Q 0 (os, cnt, false) = cnt * (Q.nf + zs P.al P.al.length) := by simp [lzo]
          have m1 : (cnt + 1) * (P.al.length + 1) = cnt * (P.al.length + 1) + (P.al.length + 1) := Nat.succ_mul ..
          have m2 : (cnt + 1) * (Q.nf + zs P.al P.al.length) = cnt * (Q.nf + zs P.al P.al.length) + (Q.nf + zs P.al P.al.length) := Nat.succ_mul ..
          rw [hk, hz] at X
          obtain ⟨T', h', X', q1, E, A, D, -, st1⟩ := newO X hx hZ hown LL.1.1 LL.1.2 LK.1.2 rfl (g := mkF m pc L (st.map (va (rho a n0 (P.al.length + 1))))) rfl hd (by simp only [lRoom, if_true]; omega) (by simp only [lRoom, if_true]; omega)
          obtain ⟨i1, i2, i3, i4⟩ := I
          have hsz : T.heap.size = n0 + cnt * (P.al.length + 1) := by simpa using i4
          have hsz' : h'.size = n0 + cnt * (P.al.length + 1) + 1 := by
            have g1 : T'.heap.size ≤ s₀.heap.size + (cnt * (P.al.length + 1) + 1) := X'.heapSize
            have g2 : T.heap.size < Array.size h' := A.lt
            rw [q1, hs0 rfl] at g1
            rw [hsz] at g2
            omega
          have same : ∀ x, x < T.heap.size → h'[x]? = T.heap[x]? := fun x hx => by
            obtain ⟨cc, hcc⟩ : ∃ cc, T.heap[x]? = some cc := ⟨T.heap[x], Array.getElem?_eq_getElem hx⟩
            rw [hcc]; exact E.2 _ _ hcc
          have I' : LRep P Z T'.heap a n0 sc (uo os cnt s0, cnt, true) := by
            rw [q1]
            refine ⟨i1.congr fun x hx => same x (by omega), fun o ho => ?_, fun _ => ?_, by simpa using hsz'⟩
            · have := (i2 o ho).congr (h' := h') fun x hx1 hx2 => same x (by have := rng (K := P.al.length + 1) (show o < cnt from ho); omega)
              simpa [uo, show o ≠ cnt from Nat.ne_of_lt ho] using this
            · simp only [uo, if_true]
              rw [hsz] at A D
              refine ⟨A, fun k fe hk => ?_, fun j tt N hj hc => absurd hc (Nat.not_lt_zero _), fun j i hj => ⟨rfl, rfl⟩, Nat.zero_le _⟩
              have q := D (laid_of LK hk) (LK.2.2.2.1 k fe hk)
              have e2 : Fval (n0 + cnt * (P.al.length + 1)) 0 s0 k fe = defaultValue (fkTy P fe.2.2.1) := by
                simp only [Fval]; split
                · rename_i e3; rw [e3]; rfl
                · rename_i e3; rw [e3]; rfl
                · rename_i e3; rw [e3]; rfl
                · rename_i e3; rw [e3]; rfl
              rw [e2]; exact q
          refine Don.step (fun t q => st1 t ?_) (ihk p l e s₀ m args below meth cd T' locs _ ls (.ref (cnt + 1) :: st) _ v w' L hx hZ hown hret hml hlk hs0 hdec hr (by simpa [lco, lzo] using X') (by simp only [lRoom, if_true]; omega) (by simp only [lRoom, if_true]; omega) I' hFr hL hlen)
          rw [hsz]; exact q
        · cases hr
      -- the constructor
      · obtain rfl := hn.resolve_left Bool.false_ne_true
        split at hr
        · cases hr
        · rename_i me' hme'
          split at hr
          · rename_i o r hst
            split at hr
            · rename_i hg
              obtain ⟨rfl, rfl, hgo, hp, hg1, hg2, hg3, hg4, hg5⟩ := hg
              obtain ⟨os, cnt, pend⟩ := w
              dsimp only at hgo hp hg1 hg2 hr hg4 hg5
              subst hp hgo
              obtain ⟨bytes, ps, hcode, hdec', hpar, hpl⟩ := LK.2.2.2.2.2.2.2.2.1 0 me' hme'
              obtain ⟨w1, w2, hrt⟩ := LL.2.1 me' hme'
              have hcode' := hcode
              rw [hrt] at hcode'
              have hini := LK.2.2.2.2.2.2.2.2.2.2.2.2 me' hme'
              have m1 : (o + 1) * (P.al.length + 1) = o * (P.al.length + 1) + (P.al.length + 1) := Nat.succ_mul ..
              have m2 : (o + 1) * (Q.nf + zs P.al P.al.length) = o * (Q.nf + zs P.al P.al.length) + (Q.nf + zs P.al P.al.length) := Nat.succ_mul ..
              simp only [ccall, hme'] at hr
              by_cases hla : (layA (Value.ref 0 :: (st.take me'.na).reverse)).length ≤ me'.ml
              · rw [if_pos hla] at hr
                cases hcl : cexec P f 0 me' 0 0 (lay (.ref 0 :: (st.take me'.na).reverse) me'.ml) [] (os o) with
                | none => rw [hcl] at hr; cases hr
                | some vs =>
                  obtain ⟨u, s1⟩ := vs
                  rw [hcl] at hr
                  cases u with
                  | some u => cases hr
                  | none =>
                    dsimp only at hr
                    obtain ⟨i1, i2, i3, i4⟩ := I
                    have hsz : T.heap.size = n0 + o * (P.al.length + 1) + 1 := by simpa using i4
                    have hM := met_of_CW LK hme' (cwalk LK (n0 := n0) (adr := n0 + o * (P.al.length + 1)) (Nat.le_add_right _ _) f 0 me' hme') l hdec' (as := .ref 0 :: (st.take me'.na).reverse) (nd_rev (ρ := id) (nr_nd hg3)) hla hcl (fun _ => rfl) (i3 rfl) (fun _ => hsz)
                    have hB := backOf (R := lRoom Q 0 me) (p := p) (e := e) (below := below) (s := s₀) (args := args) (len := 3) (W := cats r) hM hZ hcode LK.1.2 hg1 hg2
                    have hdl : me'.na < st.length := by
                      have := congrArg List.length hst
                      simp at this; omega
                    have hsp : st = st.take me'.na ++ .ref (o + 1) :: r := by rw [← hst, List.take_append_drop]
                    have hrv : ∀ ρ : Nat → Nat, (st.take me'.na).reverse.map (va ρ) = (st.take me'.na).reverse := fun ρ => by rw [List.map_reverse, nr_map hg3]
                    have hsm : st.map (va (rho a n0 (P.al.length + 1))) = ((st.take me'.na).reverse).reverse ++ .ref (n0 + o * (P.al.length + 1)) :: r.map (va (rho a n0 (P.al.length + 1))) := by
                      conv => lhs; rw [hsp]
                      rw [List.map_append, nr_map hg3]; simp [va, rho]
                    have hll : ∀ sig, parseMethodDescriptor (yOf P me').desc = some sig → ((st.take me'.na).reverse).length = sig.parameters.length := lenOf hpar (by simp [hpl]; omega)
                    have hk : lco P 0 (os, o, true) = o * (P.al.length + 1) + 1 := by simp [lco]
                    have hz : lzo P Q 0 (os, o, true) = o * (Q.nf + zs P.al P.al.length) + Q.nf := by simp [lzo]
                    rw [hk, hz] at X
                    have hpre : ∀ vm₁, s₀.WarmedH vm₁ → ((Value.ref (n0 + o * (P.al.length + 1)) :: (st.take me'.na).reverse).toArray = ((Value.ref 0 :: (st.take me'.na).reverse).map (va ((n0 + o * (P.al.length + 1)) + ·))).toArray ∧ (T.setVm vm₁).heap = T.heap ∧ o * (P.al.length + 1) + 1 + (cRoom P 0 me').cells ≤ (lRoom Q 0 me).cells ∧ o * (Q.nf + zs P.al P.al.length) + Q.nf + (cRoom P 0 me').slots ≤ (lRoom Q 0 me).slots) := fun vm₁ _ => by
                      refine ⟨by rw [List.map_cons, hrv]; rfl, rfl, ?_, ?_⟩
                      · show o * (P.al.length + 1) + 1 + P.al.length ≤ Q.rc
                        exact ar1 m1 hg4
                      · show o * (Q.nf + zs P.al P.al.length) + Q.nf + zs P.al P.al.length ≤ Q.rs
                        exact ar5 m2 hg5
                    obtain ⟨v', vm₁, ⟨U, lo, ce, sl⟩, -, X', ⟨Lc, hQ, l1, l2, l3⟩, stp⟩ := X.specialBack hx (y := yOf P me') hini hown (mv hZ w1) (mv hZ w2) (mv hZ hcode') LK.2.2.2.2.2.2.2.2.2.2.2.1 hB (g := mkF m pc L (st.map (va (rho a n0 (P.al.length + 1))))) rfl hsize (Steps.refl _) hll hsm (by show 2 * 0 + _ ≤ _; rw [cats_va]; omega) hd hpre
                    dsimp only [Pt.U, Pt.locs, Pt.cells, Pt.slots] at X' hQ l1 l2 l3 stp
                    subst l1 l2 l3
                    obtain ⟨⟨rfl, -⟩, hF', hH', hK', hS'⟩ := hQ
                    rw [if_pos rfl] at hH' hS'
                    have I' : LRep P Z U.heap a n0 sc (uo os o s1, o + 1, false) := by
                      refine ⟨i1.congr fun x hx => hK' x (Or.inl (by omega)), fun o' ho' => ?_, fun q => by simp at q, by rw [hS']; show n0 + o * (P.al.length + 1) + 1 + P.al.length = n0 + (o + 1) * (P.al.length + 1) + 0; exact ar6 m1⟩
                      by_cases e2 : o' = o
                      · subst e2; simpa [uo] using hH'
                      · have ho2 : o' < o := by have : o' < o + 1 := ho'; omega
                        have := (i2 o' ho2).congr (h' := U.heap) fun x hx1 hx2 => hK' x (by have := rng (K := P.al.length + 1) ho2; omega)
                        simpa [uo, e2] using this
                    refine Don.step (fun t q => stp.trans q) (ihk p l e s₀ m args below meth cd U (locs ++ Lc) _ ls r _ v w' L hx hZ hown hret hml hlk hs0 hdec hr ?_ (by show (o + 1) * (P.al.length + 1) + 0 ≤ Q.rc; omega) (by show (o + 1) * (Q.nf + zs P.al P.al.length) + 0 ≤ Q.rs; omega) I' (hFr.app hF') hL hlen)
                    have h1 : lco P 0 (uo os o s1, o + 1, false) = o * (P.al.length + 1) + 1 + (cRoom P 0 me').cells := by
                      show (o + 1) * (P.al.length + 1) + 0 = o * (P.al.length + 1) + 1 + P.al.length
                      exact ar3 m1
                    have h2 : lzo P Q 0 (uo os o s1, o + 1, false) = o * (Q.nf + zs P.al P.al.length) + Q.nf + (cRoom P 0 me').slots := by
                      show (o + 1) * (Q.nf + zs P.al P.al.length) + 0 = o * (Q.nf + zs P.al P.al.length) + Q.nf + zs P.al P.al.length
                      exact ar4 m2
                    rw [h1, h2]; exact X'
              · rw [if_neg hla] at hr; cases hr
            · cases hr
          · cases hr
      -- a method of the class
      · obtain rfl := hn.resolve_left Bool.false_ne_true
        split at hr
        · cases hr
        · rename_i m' hm'
          split at hr
          · cases hr
          · rename_i me' hme'
            split at hr
            · rename_i o r hst
              split at hr
              · rename_i hg
                obtain ⟨hg0, hgo, hg1, hg2, hg3⟩ := hg
                obtain ⟨bytes, ps, hcode, hdec', hpar, hpl⟩ := LK.2.2.2.2.2.2.2.2.1 m' me' hme'
                obtain ⟨w1, w2, w3, w4⟩ := LL.2.2.1 _ _ hm' me' hme'
                simp only [ccall, hme'] at hr
                by_cases hla : (layA (Value.ref 0 :: (st.take me'.na).reverse)).length ≤ me'.ml
                · rw [if_pos hla] at hr
                  cases hcl : cexec P f m' me' P.al.length 0 (lay (.ref 0 :: (st.take me'.na).reverse) me'.ml) [] (w.1 o) with
                  | none => rw [hcl] at hr; cases hr
                  | some vs =>
                    obtain ⟨u, s1⟩ := vs
                    rw [hcl] at hr
                    have hr' : lexec P Q sc f mi me (pc + 3) ls (u.toList ++ r) (uo w.1 o s1, w.2.1, w.2.2) = some (v, w') := by cases u <;> exact hr
                    have hM := met_of_CW LK hme' (cwalk LK (n0 := n0) (adr := n0 + o * (P.al.length + 1)) (Nat.le_add_right _ _) f m' me' hme') l hdec' (as := .ref 0 :: (st.take me'.na).reverse) (nd_rev (ρ := id) (nr_nd hg3)) hla hcl (fun q => absurd q hg0) (I.2.1 o hgo) (fun q => absurd q hg0)
                    have hB := backOf (R := lRoom Q mi me) (p := p) (e := e) (below := below) (s := s₀) (args := args) (len := 3) (W := cats r) hM hZ hcode LK.1.2 hg1 hg2
                    have hdl : me'.na < st.length := by
                      have := congrArg List.length hst
                      simp at this; omega
                    have hsp : st = st.take me'.na ++ .ref (o + 1) :: r := by rw [← hst, List.take_append_drop]
                    have hrv : ∀ ρ : Nat → Nat, (st.take me'.na).reverse.map (va ρ) = (st.take me'.na).reverse := fun ρ => by rw [List.map_reverse, nr_map hg3]
                    have hsm : st.map (va (rho a n0 (P.al.length + 1))) = ((st.take me'.na).reverse).reverse ++ .ref (n0 + o * (P.al.length + 1)) :: r.map (va (rho a n0 (P.al.length + 1))) := by
                      conv => lhs; rw [hsp]
                      rw [List.map_append, nr_map hg3]; simp [va, rho]
                    have hll : ∀ sig, parseMethodDescriptor (yOf P me').desc = some sig → ((st.take me'.na).reverse).length = sig.parameters.length := lenOf hpar (by simp [hpl]; omega)
                    have hz1 : (cRoom P m' me').cells = 0 := by simp [cRoom, hg0]
                    have hz2 : (cRoom P m' me').slots = 0 := by simp [cRoom, hg0]
                    have hpre : ∀ vm₁, s₀.WarmedH vm₁ → ((Value.ref (n0 + o * (P.al.length + 1)) :: (st.take me'.na).reverse).toArray = ((Value.ref 0 :: (st.take me'.na).reverse).map (va ((n0 + o * (P.al.length + 1)) + ·))).toArray ∧ (T.setVm vm₁).heap = T.heap ∧ lco P mi w + (cRoom P m' me').cells ≤ (lRoom Q mi me).cells ∧ lzo P Q mi w + (cRoom P m' me').slots ≤ (lRoom Q mi me).slots) := fun vm₁ _ => by
                      refine ⟨by rw [List.map_cons, hrv]; rfl, rfl, ?_, ?_⟩
                      · rw [hz1]; simp only [lco, lRoom] at *; split
                        · simpa using hc1
                        · exact Nat.le_refl _
                      · rw [hz2]; simp only [lzo, lRoom] at *; split
                        · simpa using hc2
                        · exact Nat.le_refl _
                    obtain ⟨cq, kq, qa, qb, qc⟩ := isOf hZ rfl (I.2.1 o hgo).1
                    obtain ⟨v', vm₁, ⟨U, lo, ce, sl⟩, -, X', ⟨Lc, hQ, l1, l2, l3⟩, stp⟩ := X.virtualBack hx (y := yOf P me') (z := yOf P me') hown (mv hZ w1) (mv hZ w2) (notFace_of_selects (args := #[]) (mv hZ w4)) (mv hZ w4) (mv hZ w3) LK.2.2.2.2.2.2.2.2.2.2.2.1 hB qa qc (g := mkF m pc L (st.map (va (rho a n0 (P.al.length + 1))))) rfl hsize (Steps.refl _) hll hsm (by show 2 * 0 + _ ≤ _; rw [cats_va]; omega) hd hpre
                    dsimp only [Pt.U, Pt.locs, Pt.cells, Pt.slots] at X' hQ l1 l2 l3 stp
                    subst l1 l2 l3
                    obtain ⟨⟨rfl, hva⟩, hF', hH', hK', hS'⟩ := hQ
                    rw [if_neg hg0] at hH' hS'
                    rw [hz1, hz2] at X'
                    refine Don.step (fun t q => stp.trans ?_) (ihk p l e s₀ m args below meth cd U (locs ++ Lc) _ ls (v'.toList ++ r) _ v w' L hx hZ hown hret hml hlk hs0 hdec hr' X' hc1 hc2 (I.call hgo hK' hS' hH') (hFr.app hF') hL hlen)
                    rw [List.map_append, hva] at q; exact q
                · rw [if_neg hla] at hr; cases hr
              · cases hr
            · cases hr
      -- a static method of the law
      · obtain rfl := hn.resolve_left Bool.false_ne_true
        split at hr
        · cases hr
        · rename_i m' hm'
          split at hr
          · cases hr
          · rename_i me' hme'
            split at hr
            · rename_i hg
              obtain ⟨hg0, hgn, hg1, hg2, hg3⟩ := hg
              obtain ⟨bytes, ps, hcode, hdec', hpar, hpl⟩ := LL.2.2.2.2.2.1 m' me' hme' hg0
              obtain ⟨w1, w2, w3⟩ := LL.2.2.2.1 _ _ hm' me' hme'
              dsimp only at hr
              rw [hme'] at hr
              dsimp only at hr
              by_cases hla : (layA (st.take me'.na).reverse).length ≤ me'.ml
              · rw [if_pos hla] at hr
                cases hcl : lexec P Q sc f m' me' 0 (lay (st.take me'.na).reverse me'.ml) [] w with
                | none => rw [hcl] at hr; cases hr
                | some vs =>
                  obtain ⟨u, w2'⟩ := vs
                  rw [hcl] at hr
                  have hr' : lexec P Q sc f mi me (pc + 3) ls (u.toList ++ st.drop me'.na) w2' = some (v, w') := by cases u <;> exact hr
                  have hndv : ∀ v ∈ (st.take me'.na).reverse, ∀ x, v ≠ .double x := fun v hv x e => nd_spec hg3 v (List.mem_reverse.mp hv) x e
                  have hM := met_of_LW LL (ih m' me' hme') hg0 l hdec' (as := (st.take me'.na).reverse) hndv hla hcl (by simpa [lRoom] using hc1) (by simpa [lRoom] using hc2) I
                  have hB := backOf (R := lRoom Q mi me) (p := p) (e := e) (below := below) (s := s₀) (args := args) (len := 3) (W := cats (st.drop me'.na)) hM hZ hcode w3 hg1 hg2
                  have hsm : st.map (va (rho a n0 (P.al.length + 1))) = (((st.take me'.na).reverse).map (va (rho a n0 (P.al.length + 1)))).reverse ++ (st.drop me'.na).map (va (rho a n0 (P.al.length + 1))) := by
                    conv => lhs; rw [← List.take_append_drop me'.na st]
                    simp
                  have hll : ∀ sig, parseMethodDescriptor (zOf Q me').desc = some sig → (((st.take me'.na).reverse).map (va (rho a n0 (P.al.length + 1)))).length = sig.parameters.length := lenOf hpar (by simp [hpl]; omega)
                  have hz1 : (lRoom Q m' me').cells = 0 := by simp [lRoom, hg0]
                  have hz2 : (lRoom Q m' me').slots = 0 := by simp [lRoom, hg0]
                  have hpre : ∀ vm₁, s₀.WarmedH vm₁ → ((((st.take me'.na).reverse).map (va (rho a n0 (P.al.length + 1)))).toArray = (((st.take me'.na).reverse).map (va (rho a n0 (P.al.length + 1)))).toArray ∧ (T.setVm vm₁).heap = T.heap ∧ lco P mi w + (lRoom Q m' me').cells ≤ (lRoom Q mi me).cells ∧ lzo P Q mi w + (lRoom Q m' me').slots ≤ (lRoom Q mi me).slots) := fun vm₁ _ => by
                    refine ⟨rfl, rfl, ?_, ?_⟩
                    · rw [hz1]; simp only [lco, lRoom] at *; split
                      · simpa using hc1
                      · exact Nat.le_refl _
                    · rw [hz2]; simp only [lzo, lRoom] at *; split
                      · simpa using hc2
                      · exact Nat.le_refl _
                  obtain ⟨v', vm₁, ⟨U, lo, ce, sl⟩, -, X', ⟨Lc, hQ, l1, l2, l3⟩, stp⟩ := Jvm.LawKit.callS X hx (y := zOf Q me') hown (mv hZ w1) (mv hZ w2) (mv hZ w3) (mv hZ hcode) LL.2.2.2.2.2.2.2 hB (g := mkF m pc L (st.map (va (rho a n0 (P.al.length + 1))))) rfl hsize hll hsm (by show 2 * 0 + _ ≤ _; rw [cats_va]; omega) hd hpre
                  dsimp only [Pt.U, Pt.locs, Pt.cells, Pt.slots] at X' hQ l1 l2 l3 stp
                  subst l1 l2 l3
                  obtain ⟨⟨rfl, hva⟩, hF', hI'⟩ := hQ
                  rw [hz1, hz2] at X'
                  have hcn := lexec_cnt _ _ _ _ _ _ _ _ _ hg0 hcl
                  have e1 : lco P mi w2' = lco P mi w := by simp only [lco, hcn]
                  have e2 : lzo P Q mi w2' = lzo P Q mi w := by simp only [lzo, hcn]
                  refine Don.step (fun t q => stp t ?_) (ihk p l e s₀ m args below meth cd U (locs ++ Lc) _ ls (v'.toList ++ st.drop me'.na) _ v w' L hx hZ hown hret hml hlk hs0 hdec hr' (by rw [e1, e2]; exact X') (by rw [hcn]; exact hc1) (by rw [hcn]; exact hc2) hI' (hFr.app hF') hL hlen)
                  rw [List.map_append, hva] at q; exact q
              · rw [if_neg hla] at hr; cases hr
            · cases hr
      -- the rest
      · split at hr
        · split at hr
          · rename_i u hu
            cases hr
            refine st_ret X hx hret hlk hu hd hn ⟨⟨rfl, cret_va hu⟩, hFr, I⟩ ?_ ?_
            · simp only [lco, lRoom] at *; split
              · simpa using hc1
              · exact Nat.le_refl _
            · simp only [lzo, lRoom] at *; split
              · simpa using hc2
              · exact Nat.le_refl _
          · cases hr
        · split at hr
          · rename_i pc' ls' st' hp
            obtain ⟨L', hL', hLs, st⟩ := pstep_sound X hx hp hd hn hL
            have hlen' : ls'.length = me.ml := by rw [← hL'.1, hLs, hL.1]; exact hlen
            exact Don.step st (ihk p l e s₀ m args below meth cd T locs _ ls' st' w v w' L' hx hZ hown hret hml hlk hs0 hdec hr X hc1 hc2 I hFr hL' hlen')
          · cases hr
/-- the law as a whole: what the machine returns, the program returns -/
theorem law_met {P : Cl} {Q : Lw} {sc : Sc} {Z : State} {a0 : Array Value} (LK : LinkC P Z a0) (LL : LinkL P Q Z a0) {a f : Nat} {me : Me} (hme : asc Q.ms 0 = some me) (l : Launch) {bytes : ByteArray} {ws : List Cond}
    (hdec : ∀ pc i n, fetch me.cd pc = some (i, n) → decode bytes pc = .ok (i, n) ∧ (isSw i = true ∨ n = ilen i))
    {as : List Value} (hnd : nd as = true) (hlen : (layA as).length ≤ me.ml) {v : Option Value} {w' : Wd} {h : Heap} (hr : lexec P Q sc f 0 me 0 (lay as me.ml) [] (fun _ => s0, 0, false) = some (v, w')) (hS : SRep Z h a h.size sc) :
    MetFree l (zOf Q me) (head1 (Cond.code (zOf Q me) bytes me.ml (retOf me.rt) :: ws) (lRoom Q 0 me)) (fun b U => b = (as.map (va (rho a h.size (P.al.length + 1)))).toArray ∧ Z.Warmed39 U.vm ∧ U.heap = h) (fun _ _ _ _ _ => True)
      (fun _ U o U' => ∃ u L, o = .returned u ∧ (u = v ∧ Fr h.size L) ∧ FrameEnd U o U' L Q.rc Q.rs) := by
  refine MetFree.of_bodySF (plainFor_of_name LL.2.2.2.2.2.2.1) hisR ?_
  intro p e s₀ m args below meth cd s₁ Bd hml hP hK
  obtain ⟨rfl, hZ, hh⟩ := hP
  have e0 : s₁.heap = h := by rw [← hh, Bd.state]; rfl
  have X0 : Stand p l e (lRoom Q 0 me) s₀ m _ below meth cd s₁ [] 0 0 := Stand.of_body Bd
  have hown : s₀.vm.findClass Q.nm = some m.cls := findClass_of_methodNamed Bd.named
  have hk0 : lco P 0 (fun _ => s0, 0, false) = 0 := by simp [lco]
  have hz0 : lzo P Q 0 (fun _ => s0, 0, false) = 0 := by simp [lzo]
  have D := lwalk LK LL (sc := sc) (a := a) (n0 := h.size) f 0 me hme p l e s₀ m _ below meth cd s₁ [] 0 (lay as me.ml) [] (fun _ => s0, 0, false) v w' _ Bd.exec hZ hown Bd.returns hml Bd.notSynchronized (fun _ => by rw [hh])
    (fun pc i n q => by rw [Bd.bytes]; exact hdec pc i n q) hr (by rw [hk0, hz0]; exact X0) (by simp) (by simp) (by
      rw [e0]; exact ⟨hS, fun o ho => absurd ho (Nat.not_lt_zero _), fun q => by simp at q, by simp⟩) (Fr.nil _) (lay_LR (nd_spec hnd) hlen) (lay_len hlen)
  obtain ⟨s₂, o, a1, a2, a3, u, L, a4, a5, a6⟩ := D
  refine ⟨s₂, o, a1, a2, a3, u, L, a4, ⟨a5.1.1, a5.2.1⟩, ?_⟩
  simpa [lRoom] using a6
end Jvm.LM

namespace Jvm.LM
open Sem ClassFile Op Lib Jvm.Stand Jvm.Free Jvm.LawKit Jvm.RoadKit
/-! what a run of the machine comes to -/
theorem cstep_mono {α : Type} {P : Cl} {mi : Nat} {me : Me} {rt : Option Value → St → Option α} {cl cl' : Nat → Nat → List Value → St → Rs} {k k' : Nat → Nat → Lv → List Value → St → Option α} {i : Instr} {c pc : Nat} {ls : Lv} {st : List Value} {s : St} {r : α}
    (hcl : ∀ m c as s r, cl m c as s = some r → cl' m c as s = some r) (hk : ∀ c pc ls st s r, k c pc ls st s = some r → k' c pc ls st s = some r) (h : cstep P mi me rt cl k i c pc ls st s = some r) : cstep P mi me rt cl' k' i c pc ls st s = some r := by
  unfold cstep at h ⊢
  split at h
  all_goals (try dsimp only)
  · split at h
    · split at h
      · exact hk _ _ _ _ _ _ h
      · cases h
    · cases h
  · split at h
    · split at h
      · exact hk _ _ _ _ _ _ h
      · cases h
    · cases h
  · split at h
    · exact hk _ _ _ _ _ _ h
    · cases h
  · split at h
    · exact hk _ _ _ _ _ _ h
    · cases h
  · split at h
    · exact hk _ _ _ _ _ _ h
    · cases h
  · split at h
    · exact hk _ _ _ _ _ _ h
    · cases h
  · split at h
    · exact hk _ _ _ _ _ _ h
    · cases h
  · split at h
    · exact hk _ _ _ _ _ _ h
    · cases h
  · split at h
    · rename_i q; rw [if_pos q]; exact hk _ _ _ _ _ _ h
    · cases h
  · split at h
    · exact hk _ _ _ _ _ _ h
    · cases h
  · split at h
    · exact hk _ _ _ _ _ _ h
    · cases h
  · split at h
    · split at h
      · rename_i q; rw [if_pos q]; exact hk _ _ _ _ _ _ h
      · cases h
    · cases h
  · split at h
    · cases h
    · rename_i m' hm'
      split at h
      · cases h
      · rename_i me' hme'
        split at h
        · rename_i r0 hst
          split at h
          · rename_i q
            rw [if_pos q]
            split at h
            · rename_i s1 hc; rw [hcl _ _ _ _ _ hc]; exact hk _ _ _ _ _ _ h
            · rename_i v1 s1 hc; rw [hcl _ _ _ _ _ hc]; exact hk _ _ _ _ _ _ h
            · cases h
          · cases h
        · cases h
  · split at h
    · rename_i q; rw [if_pos q]; exact h
    · rename_i q; rw [if_neg q]
      split at h
      · exact hk _ _ _ _ _ _ h
      · cases h
theorem cexec_succ {P : Cl} : ∀ f mi me c pc ls st s r, cexec P f mi me c pc ls st s = some r → cexec P (f + 1) mi me c pc ls st s = some r := by
  intro f
  induction f with
  | zero => intro mi me c pc ls st s r h; cases h
  | succ f ih =>
    intro mi me c pc ls st s r h
    rw [cexec] at h ⊢
    split at h
    · cases h
    · refine cstep_mono (fun m c as s r h => ?_) (fun c pc ls st s r h => ih _ _ _ _ _ _ _ _ h) h
      split at h
      · split at h
        · rename_i q; rw [if_pos q]; exact ih _ _ _ _ _ _ _ _ h
        · cases h
      · cases h
theorem cexec_le {P : Cl} {f g mi : Nat} {me : Me} {c pc : Nat} {ls : Lv} {st : List Value} {s : St} {r : Option Value × St} (hfg : f ≤ g) (h : cexec P f mi me c pc ls st s = some r) : cexec P g mi me c pc ls st s = some r := by
  obtain ⟨d, rfl⟩ := Nat.le.dest hfg
  induction d with
  | zero => exact h
  | succ d ih => exact cexec_succ _ _ _ _ _ _ _ _ _ (ih (Nat.le_add_right _ _))
theorem ccall_le {P : Cl} {f g m' c : Nat} {as : List Value} {s : St} {r : Option Value × St} (hfg : f ≤ g) (h : ccall P f m' c as s = some r) : ccall P g m' c as s = some r := by
  unfold ccall at h ⊢
  split at h
  · split at h
    · rename_i q; rw [if_pos q]; exact cexec_le hfg h
    · cases h
  · cases h
def wpc (P : Cl) (mi : Nat) (me : Me) (c pc : Nat) (ls : Lv) (st : List Value) (s : St) (Q : Option Value → St → Prop) : Prop := ∃ f v s', cexec P f mi me c pc ls st s = some (v, s') ∧ Q v s'
def cal (P : Cl) (m' c : Nat) (as : List Value) (s : St) (Q : Option Value → St → Prop) : Prop := ∃ f v s', ccall P f m' c as s = some (v, s') ∧ Q v s'
def calI (P : Cl) (m' c : Nat) (as : List Value) (s : St) (Q : Int32 → St → Prop) : Prop := cal P m' c as s fun r s' => ∃ v, r = some (.int v) ∧ Q v s'
def calL (P : Cl) (m' c : Nat) (as : List Value) (s : St) (Q : Int64 → St → Prop) : Prop := cal P m' c as s fun r s' => ∃ v, r = some (.long v) ∧ Q v s'
def calV (P : Cl) (m' c : Nat) (as : List Value) (s : St) (Q : St → Prop) : Prop := cal P m' c as s fun r s' => r = none ∧ Q s'
theorem cstep_nat {α : Type} {P : Cl} {mi : Nat} {me : Me} {k : Nat → Nat → Lv → List Value → St → Option α} {i : Instr} {c pc : Nat} {ls : Lv} {st : List Value} {s : St} {x : α}
    (h : cstep P mi me (fun _ _ => none) (fun _ _ _ _ => none) k i c pc ls st s = some x) : ∃ c' pc' ls' st' s', k c' pc' ls' st' s' = some x ∧ ∀ (β : Type) (rt : Option Value → St → Option β) cl (k' : Nat → Nat → Lv → List Value → St → Option β), cstep P mi me rt cl k' i c pc ls st s = k' c' pc' ls' st' s' := by
  unfold cstep at h
  split at h
  · split at h
    · split at h
      · rename_i q; exact ⟨_, _, _, _, _, h, fun β rt cl k' => by simp only [cstep, q]⟩
      · cases h
    · cases h
  · split at h
    · split at h
      · rename_i q; exact ⟨_, _, _, _, _, h, fun β rt cl k' => by simp only [cstep, q]⟩
      · cases h
    · cases h
  · split at h
    · rename_i q; exact ⟨_, _, _, _, _, h, fun β rt cl k' => by simp only [cstep, q]⟩
    · cases h
  · split at h
    · rename_i q; exact ⟨_, _, _, _, _, h, fun β rt cl k' => by simp only [cstep, q]⟩
    · cases h
  · split at h
    · rename_i q; exact ⟨_, _, _, _, _, h, fun β rt cl k' => by simp only [cstep, q]⟩
    · cases h
  · split at h
    · rename_i q; exact ⟨_, _, _, _, _, h, fun β rt cl k' => by simp only [cstep, q]⟩
    · cases h
  · split at h
    · rename_i q; exact ⟨_, _, _, _, _, h, fun β rt cl k' => by simp only [cstep, q]⟩
    · cases h
  · split at h
    · rename_i q; exact ⟨_, _, _, _, _, h, fun β rt cl k' => by simp only [cstep, q]⟩
    · cases h
  · split at h
    · rename_i q; exact ⟨_, _, _, _, _, h, fun β rt cl k' => by simp only [cstep]; rw [if_pos q]⟩
    · cases h
  · split at h
    · rename_i q; exact ⟨_, _, _, _, _, h, fun β rt cl k' => by simp only [cstep, q]⟩
    · cases h
  · split at h
    · rename_i q; exact ⟨_, _, _, _, _, h, fun β rt cl k' => by simp only [cstep, q]⟩
    · cases h
  · split at h
    · split at h
      · rename_i q; exact ⟨_, _, _, _, _, h, fun β rt cl k' => by simp only [cstep]; rw [if_pos q]⟩
      · cases h
    · cases h
  · split at h
    · cases h
    · split at h
      · cases h
      · split at h
        · split at h
          · cases h
          · cases h
        · cases h
  · rename_i n1 n2 n3 n4 n5 n6 n7 n8 n9 n10 n11 n12 n13
    split at h
    · split at h
      · cases h
      · split at h <;> cases h
    · rename_i hr
      split at h
      · rename_i pc' ls' st' hp
        refine ⟨_, _, _, _, _, h, fun β rt cl k' => ?_⟩
        unfold cstep
        split <;> first | (exfalso; first | exact n1 _ rfl | exact n2 _ rfl | exact n3 rfl | exact n4 rfl | exact n5 rfl | exact n6 rfl | exact n7 rfl | exact n8 rfl | exact n9 _ rfl | exact n10 _ rfl | exact n11 _ rfl | exact n12 _ rfl | exact n13 _ rfl) | skip
        rw [if_neg hr, hp]
      · cases h
def csl (P : Cl) (mi : Nat) (me : Me) : Nat → Nat → Nat → Lv → List Value → St → Option (Nat × Nat × Lv × List Value × St)
  | 0, c, pc, ls, st, s => some (c, pc, ls, st, s)
  | n + 1, c, pc, ls, st, s => match fetch me.cd pc with
    | none => none
    | some (i, _) => cstep P mi me (fun _ _ => none) (fun _ _ _ _ => none) (csl P mi me n) i c pc ls st s
theorem wpc_one {P : Cl} {mi : Nat} {me : Me} {c pc c' pc' : Nat} {ls ls' : Lv} {st st' : List Value} {s s' : St} {Q : Option Value → St → Prop} {i : Instr} {n : Nat} (hf : fetch me.cd pc = some (i, n))
    (h : ∀ (rt : Option Value → St → Rs) cl (k : Nat → Nat → Lv → List Value → St → Rs), cstep P mi me rt cl k i c pc ls st s = k c' pc' ls' st' s') (hq : wpc P mi me c' pc' ls' st' s' Q) : wpc P mi me c pc ls st s Q := by
  obtain ⟨f, v, s2, h1, h2⟩ := hq
  refine ⟨f + 1, v, s2, ?_, h2⟩
  rw [cexec, hf]; dsimp only; rw [h]; exact h1
theorem wpc_sl {P : Cl} {mi : Nat} {me : Me} {Q : Option Value → St → Prop} : ∀ {n c pc c' pc' : Nat} {ls ls' : Lv} {st st' : List Value} {s s' : St}, csl P mi me n c pc ls st s = some (c', pc', ls', st', s') → wpc P mi me c' pc' ls' st' s' Q → wpc P mi me c pc ls st s Q := by
  intro n
  induction n with
  | zero => intro c pc c' pc' ls ls' st st' s s' h hq; cases h; exact hq
  | succ n ih =>
    intro c pc c' pc' ls ls' st st' s s' h hq
    simp only [csl] at h
    split at h
    · cases h
    · rename_i i m hf
      obtain ⟨c1, pc1, ls1, st1, s1, h1, h2⟩ := cstep_nat h
      exact wpc_one hf (fun rt cl k => h2 _ rt cl k) (ih h1 hq)
theorem wpc_ret {P : Cl} {mi : Nat} {me : Me} {c pc : Nat} {ls : Lv} {st : List Value} {s : St} {Q : Option Value → St → Prop} {i : Instr} {n : Nat} {v : Option Value} (hf : fetch me.cd pc = some (i, n)) (hr : isRet i = true) (hc : mi = 0 → c = P.al.length) (h : cret me st i = some v) (hq : Q v s) : wpc P mi me c pc ls st s Q := by
  refine ⟨1, v, s, ?_, hq⟩
  rw [cexec, hf]; dsimp only
  have hc' : ¬ (mi = 0 ∧ c ≠ P.al.length) := fun q => q.2 (hc q.1)
  cases i <;> first | (cases hr; done) | (simp only [cstep]; rw [if_pos hr, if_neg hc', h])
theorem wpc_if {P : Cl} {mi : Nat} {me : Me} {c pc a b : Nat} {ls : Lv} {r : List Value} {s : St} {Q : Option Value → St → Prop} {cd : ClassFile.Cond} {o : Int} {n : Nat} {x : Int32} (hf : fetch me.cd pc = some (.ifCond cd o, n)) (ho : 0 ≤ (pc : Int) + o) (ha : jmp pc o = a) (hb : pc + 3 = b)
    (hq : wpc P mi me c (br cd x 0 a b) ls r s Q) : wpc P mi me c pc ls (.int x :: r) s Q := by
  subst ha hb
  refine wpc_one hf (fun rt cl k => ?_) hq
  show (match pstep (.ifCond cd o) pc ls (.int x :: r) with | some (pc', ls', st') => k c pc' ls' st' s | none => none) = _
  simp only [pstep, qstep]; rw [if_pos ho]
theorem wpc_icmp {P : Cl} {mi : Nat} {me : Me} {c pc a b : Nat} {ls : Lv} {r : List Value} {s : St} {Q : Option Value → St → Prop} {cd : ClassFile.Cond} {o : Int} {n : Nat} {x y : Int32} (hf : fetch me.cd pc = some (.if_icmp cd o, n)) (ho : 0 ≤ (pc : Int) + o) (ha : jmp pc o = a) (hb : pc + 3 = b)
    (hq : wpc P mi me c (br cd x y a b) ls r s Q) : wpc P mi me c pc ls (.int y :: .int x :: r) s Q := by
  subst ha hb
  refine wpc_one hf (fun rt cl k => ?_) hq
  show (match pstep (.if_icmp cd o) pc ls (.int y :: .int x :: r) with | some (pc', ls', st') => k c pc' ls' st' s | none => none) = _
  simp only [pstep, qstep]; rw [if_pos ho]
/-- the two roads of a branch -/
theorem wpc_br {P : Cl} {mi : Nat} {me : Me} {c a b : Nat} {ls : Lv} {st : List Value} {s : St} {Q : Option Value → St → Prop} {p : Prop} [Decidable p] (h : (p → wpc P mi me c a ls st s Q) ∧ (¬ p → wpc P mi me c b ls st s Q)) : wpc P mi me c (if p then a else b) ls st s Q := by
  by_cases hp : p
  · rw [if_pos hp]; exact h.1 hp
  · rw [if_neg hp]; exact h.2 hp
theorem wpc_lda {P : Cl} {mi : Nat} {me : Me} {c pc a tt N : Nat} {ls : Lv} {r : List Value} {s : St} {Q : Option Value → St → Prop} {i : Instr} {n : Nat} {j : Int32} (hf : fetch me.cd pc = some (i, n)) (hi : (tt = 0 ∧ i = .iaload) ∨ (tt = 1 ∧ i = .baload) ∨ (tt = 2 ∧ i = .laload)) (ha : P.al[a]? = some (tt, N)) (hac : a < c)
    (hj : inb N j) (hq : wpc P mi me c (pc + 1) ls (elv tt s (a + 1) (ix j) :: r) s Q) : wpc P mi me c pc ls (.int j :: .ref (a + 1) :: r) s Q := by
  have hl : lda P tt c (.int j :: .ref (a + 1) :: r) s = some (elv tt s (a + 1) (ix j) :: r) := by
    simp only [lda, ha]; rw [if_pos ⟨trivial, hac⟩, if_pos hj]; rfl
  refine wpc_one hf (fun rt cl k => ?_) hq
  rcases hi with ⟨rfl, rfl⟩ | ⟨rfl, rfl⟩ | ⟨rfl, rfl⟩ <;> simp only [cstep, hl]
theorem wpc_sta {P : Cl} {mi : Nat} {me : Me} {c pc a tt N : Nat} {ls : Lv} {r : List Value} {s s' : St} {Q : Option Value → St → Prop} {i : Instr} {n : Nat} {j : Int32} {v : Value} (hf : fetch me.cd pc = some (i, n)) (hi : (tt = 0 ∧ i = .iastore ∧ ∃ z, v = .int z ∧ s' = sI s (a + 1) (ix j) z) ∨ (tt = 1 ∧ i = .bastore ∧ ∃ z, v = .int z ∧ s' = sI s (a + 1) (ix j) (z &&& 1)) ∨ (tt = 2 ∧ i = .lastore ∧ ∃ z, v = .long z ∧ s' = sL s (a + 1) (ix j) z)) (ha : P.al[a]? = some (tt, N)) (hac : a < c)
    (hj : inb N j) (hq : wpc P mi me c (pc + 1) ls r s' Q) : wpc P mi me c pc ls (v :: .int j :: .ref (a + 1) :: r) s Q := by
  have hl : sta P tt c (v :: .int j :: .ref (a + 1) :: r) s = some (r, s') := by
    simp only [sta, ha]; rw [if_pos ⟨trivial, hac⟩, if_pos hj]
    rcases hi with ⟨rfl, -, z, rfl, rfl⟩ | ⟨rfl, -, z, rfl, rfl⟩ | ⟨rfl, -, z, rfl, rfl⟩ <;> rfl
  refine wpc_one hf (fun rt cl k => ?_) hq
  rcases hi with ⟨rfl, rfl, -⟩ | ⟨rfl, rfl, -⟩ | ⟨rfl, rfl, -⟩ <;> simp only [cstep, hl]
theorem wpc_call {P : Cl} {mi : Nat} {me me' : Me} {c pc x m' : Nat} {ls : Lv} {st r as : List Value} {s : St} {Q : Option Value → St → Prop} {n : Nat} (hf : fetch me.cd pc = some (.invokevirtual x, n)) (hm : asc P.mx x = some m') (hme : asc P.ms m' = some me') (hst : st.drop me'.na = .ref 0 :: r) (has : (st.take me'.na).reverse = as)
    (hg : m' ≠ 0 ∧ me'.rf + 1 ≤ me.rf ∧ cats r + (me'.ml + 11) + me'.rl ≤ me.rl ∧ nd (st.take me'.na) = true)
    (hq : cal P m' c (.ref 0 :: as) s fun v s' => wpc P mi me c (pc + 3) ls (v.toList ++ r) s' Q) : wpc P mi me c pc ls st s Q := by
  subst has
  obtain ⟨f1, v, s1, h1, f2, v2, s2, h2, h3⟩ := hq
  refine ⟨max f1 f2 + 1, v2, s2, ?_, h3⟩
  have h1' := ccall_le (Nat.le_max_left f1 f2) h1
  have h2' := cexec_le (Nat.le_max_right f1 f2) h2
  rw [cexec, hf]; dsimp only
  simp only [cstep, hm, hme, hst]
  rw [if_pos hg]
  simp only [ccall, hme] at h1'
  rw [h1']
  cases v <;> exact h2'
theorem cal_of {P : Cl} {m' c : Nat} {as : List Value} {s : St} {Q : Option Value → St → Prop} {me : Me} {ls : Lv} (hme : asc P.ms m' = some me) (hl : (layA as).length ≤ me.ml) (hls : lay as me.ml = ls) (h : wpc P m' me c 0 ls [] s Q) : cal P m' c as s Q := by
  subst hls
  obtain ⟨f, v, s', h1, h2⟩ := h
  refine ⟨f, v, s', ?_, h2⟩
  simp only [ccall, hme]; rw [if_pos hl]; exact h1
theorem cal.mono {P : Cl} {m' c : Nat} {as : List Value} {s : St} {Q Q' : Option Value → St → Prop} (h : cal P m' c as s Q) (hq : ∀ v s', Q v s' → Q' v s') : cal P m' c as s Q' := by
  obtain ⟨f, v, s', h1, h2⟩ := h; exact ⟨f, v, s', h1, hq _ _ h2⟩
theorem calI.mono {P : Cl} {m' c : Nat} {as : List Value} {s : St} {Q Q' : Int32 → St → Prop} (h : calI P m' c as s Q) (hq : ∀ v s', Q v s' → Q' v s') : calI P m' c as s Q' := cal.mono h fun _ _ ⟨v, e, q⟩ => ⟨v, e, hq _ _ q⟩
theorem calL.mono {P : Cl} {m' c : Nat} {as : List Value} {s : St} {Q Q' : Int64 → St → Prop} (h : calL P m' c as s Q) (hq : ∀ v s', Q v s' → Q' v s') : calL P m' c as s Q' := cal.mono h fun _ _ ⟨v, e, q⟩ => ⟨v, e, hq _ _ q⟩
theorem calV.mono {P : Cl} {m' c : Nat} {as : List Value} {s : St} {Q Q' : St → Prop} (h : calV P m' c as s Q) (hq : ∀ s', Q s' → Q' s') : calV P m' c as s Q' := cal.mono h fun _ _ ⟨e, q⟩ => ⟨e, hq _ q⟩
theorem wpc.mono {P : Cl} {mi : Nat} {me : Me} {c pc : Nat} {ls : Lv} {st : List Value} {s : St} {Q Q' : Option Value → St → Prop} (h : wpc P mi me c pc ls st s Q) (hq : ∀ v s', Q v s' → Q' v s') : wpc P mi me c pc ls st s Q' := by
  obtain ⟨f, v, s', h1, h2⟩ := h; exact ⟨f, v, s', h1, hq _ _ h2⟩
theorem wpc_callI {P : Cl} {mi : Nat} {me me' : Me} {c pc x m' : Nat} {ls : Lv} {st r as : List Value} {s : St} {Q : Option Value → St → Prop} {n : Nat} (hf : fetch me.cd pc = some (.invokevirtual x, n)) (hm : asc P.mx x = some m') (hme : asc P.ms m' = some me') (hst : st.drop me'.na = .ref 0 :: r) (has : (st.take me'.na).reverse = as)
    (hg : m' ≠ 0 ∧ me'.rf + 1 ≤ me.rf ∧ cats r + (me'.ml + 11) + me'.rl ≤ me.rl ∧ nd (st.take me'.na) = true)
    (hq : calI P m' c (.ref 0 :: as) s fun v s' => wpc P mi me c (pc + 3) ls (.int v :: r) s' Q) : wpc P mi me c pc ls st s Q :=
  wpc_call hf hm hme hst has hg (cal.mono hq fun _ _ ⟨v, e, q⟩ => by subst e; exact q)
theorem wpc_callL {P : Cl} {mi : Nat} {me me' : Me} {c pc x m' : Nat} {ls : Lv} {st r as : List Value} {s : St} {Q : Option Value → St → Prop} {n : Nat} (hf : fetch me.cd pc = some (.invokevirtual x, n)) (hm : asc P.mx x = some m') (hme : asc P.ms m' = some me') (hst : st.drop me'.na = .ref 0 :: r) (has : (st.take me'.na).reverse = as)
    (hg : m' ≠ 0 ∧ me'.rf + 1 ≤ me.rf ∧ cats r + (me'.ml + 11) + me'.rl ≤ me.rl ∧ nd (st.take me'.na) = true)
    (hq : calL P m' c (.ref 0 :: as) s fun v s' => wpc P mi me c (pc + 3) ls (.long v :: r) s' Q) : wpc P mi me c pc ls st s Q :=
  wpc_call hf hm hme hst has hg (cal.mono hq fun _ _ ⟨v, e, q⟩ => by subst e; exact q)
theorem wpc_callV {P : Cl} {mi : Nat} {me me' : Me} {c pc x m' : Nat} {ls : Lv} {st r as : List Value} {s : St} {Q : Option Value → St → Prop} {n : Nat} (hf : fetch me.cd pc = some (.invokevirtual x, n)) (hm : asc P.mx x = some m') (hme : asc P.ms m' = some me') (hst : st.drop me'.na = .ref 0 :: r) (has : (st.take me'.na).reverse = as)
    (hg : m' ≠ 0 ∧ me'.rf + 1 ≤ me.rf ∧ cats r + (me'.ml + 11) + me'.rl ≤ me.rl ∧ nd (st.take me'.na) = true)
    (hq : calV P m' c (.ref 0 :: as) s fun s' => wpc P mi me c (pc + 3) ls r s' Q) : wpc P mi me c pc ls st s Q :=
  wpc_call hf hm hme hst has hg (cal.mono hq fun _ _ ⟨e, q⟩ => by subst e; exact q)
/-- both roads of a value -/
theorem wp_val {p : Prop} [Decidable p] {α : Sort _} {F : α → Prop} {x y : α} (h : F (if p then x else y)) : (p → F x) ∧ (¬ p → F y) := ⟨fun q => by rw [if_pos q] at h; exact h, fun q => by rw [if_neg q] at h; exact h⟩
end Jvm.LM

namespace Jvm.LM
open Sem ClassFile Op Lib Jvm.Stand Jvm.Free Jvm.LawKit Jvm.RoadKit
/-! variables that are not read any more -/
def lle (a b : Lv) : Prop := a.length = b.length ∧ ∀ (k : Nat) (v : Value), a[k]? = some (some v) → b[k]? = some (some v)
def lle' : Lv → Lv → Prop
  | [], [] => True
  | none :: a, _ :: b => lle' a b
  | some v :: a, w :: b => w = some v ∧ lle' a b
  | _, _ => False
theorem lle_of {a b : Lv} (h : lle' a b) : lle a b := by
  induction a generalizing b with
  | nil => cases b with
    | nil => exact ⟨rfl, fun k v hk => hk⟩
    | cons y b => cases h
  | cons x a ih =>
    cases b with
    | nil => cases x <;> cases h
    | cons y b =>
      cases x with
      | none =>
        obtain ⟨h1, h2⟩ := ih (b := b) h
        refine ⟨by simp [h1], fun k v hk => ?_⟩
        cases k with
        | zero => simp at hk
        | succ k => simp at hk ⊢; exact h2 k v hk
      | some x =>
        obtain ⟨e, h⟩ := h
        obtain ⟨h1, h2⟩ := ih (b := b) h
        subst e
        refine ⟨by simp [h1], fun k v hk => ?_⟩
        cases k with
        | zero => exact hk
        | succ k => simp at hk ⊢; exact h2 k v hk
theorem clr_lle {a b : Lv} (h : lle a b) (i : Nat) : (clr a i).length = (clr b i).length ∧ ∀ k v, k ≠ i → (clr a i)[k]? = some (some v) → (clr b i)[k]? = some (some v) := by
  refine ⟨by rw [clr_len, clr_len]; exact h.1, fun k v hk hv => ?_⟩
  obtain ⟨q1, q2⟩ := clr_get hv
  have q3 := h.2 _ _ q1
  cases i with
  | zero => exact q3
  | succ j =>
    simp only [clr]
    split
    · rename_i x e
      rw [List.getElem?_set]
      split
      · rename_i e2; subst e2
        rw [q3] at e; cases e
        exact absurd rfl (q2 rfl)
      · exact q3
    · rename_i x e
      rw [List.getElem?_set]
      split
      · rename_i e2; subst e2
        rw [q3] at e; cases e
        exact absurd rfl (q2 rfl)
      · exact q3
    · exact q3
theorem stl_lle {a b a' : Lv} (h : lle a b) {i : Nat} {v : Value} (hs : stl a i v = some a') : ∃ b', stl b i v = some b' ∧ lle a' b' := by
  obtain ⟨c1, c2⟩ := clr_lle h i
  have hl := h.1
  have one : ∀ w : Value, ∀ k u, ((clr a i).set i (some w))[k]? = some (some u) → ((clr b i).set i (some w))[k]? = some (some u) := fun w k u hk => by
    rw [List.getElem?_set] at hk ⊢
    split
    · rename_i e; rw [if_pos e] at hk; rw [← c1]; exact hk
    · rename_i e; rw [if_neg e] at hk; exact c2 k u (fun q => e q.symm) hk
  unfold stl at hs ⊢
  split at hs
  · rename_i x
    split at hs
    · rename_i q
      cases hs
      refine ⟨((clr b i).set i (some (.long x))).set (i + 1) none, if_pos (by rw [← hl]; exact q), by simp [c1], fun k u hk => ?_⟩
      rw [List.getElem?_set] at hk ⊢
      split
      · rename_i e; rw [if_pos e] at hk; split at hk <;> simp at hk
      · rename_i e; rw [if_neg e] at hk; exact one _ k u hk
    · cases hs
  · split at hs
    · rename_i q
      cases hs
      exact ⟨(clr b i).set i (some v), if_pos (by rw [← hl]; exact q), by simp [c1], fun k u hk => one _ k u hk⟩
    · cases hs
theorem pstep_lle {i : Instr} {pc pc' : Nat} {ls l1 ls' : Lv} {st st' : List Value} (h : pstep i pc ls st = some (pc', l1, st')) (hl : lle ls ls') : ∃ l1', pstep i pc ls' st = some (pc', l1', st') ∧ lle l1 l1' := by
  unfold pstep at h ⊢
  split at h
  all_goals (try dsimp only)
  iterate 6
    · split at h
      · rename_i e; cases h; rw [hl.2 _ _ e]; exact ⟨_, rfl, hl⟩
      · cases h
  iterate 6
    · split at h
      · split at h
        · rename_i e; cases h
          obtain ⟨b', q1, q2⟩ := stl_lle hl e
          rw [q1]; exact ⟨_, rfl, q2⟩
        · cases h
      · cases h
  · split at h
    · rename_i e0
      split at h
      · rename_i e; cases h
        obtain ⟨b', q1, q2⟩ := stl_lle hl e
        rw [hl.2 _ _ e0]; dsimp only; rw [q1]; exact ⟨_, rfl, q2⟩
      · cases h
    · cases h
  · split at h
    · cases h; exact ⟨_, rfl, hl⟩
    · cases h
theorem cstep_lle {P : Cl} {mi : Nat} {me : Me} {rt : Option Value → St → Rs} {cl : Nat → Nat → List Value → St → Rs} {k : Nat → Nat → Lv → List Value → St → Rs} {i : Instr} {c pc : Nat} {ls ls' : Lv} {st : List Value} {s : St} {r : Option Value × St} (hl : lle ls ls')
    (hk : ∀ c pc ls ls' st s, lle ls ls' → k c pc ls st s = some r → k c pc ls' st s = some r) (h : cstep P mi me rt cl k i c pc ls st s = some r) : cstep P mi me rt cl k i c pc ls' st s = some r := by
  unfold cstep at h ⊢
  split at h
  all_goals (try dsimp only)
  · split at h
    · split at h
      · exact hk _ _ _ _ _ _ hl h
      · cases h
    · cases h
  · split at h
    · split at h
      · exact hk _ _ _ _ _ _ hl h
      · cases h
    · cases h
  iterate 6
    · split at h
      · exact hk _ _ _ _ _ _ hl h
      · cases h
  · split at h
    · rename_i q; rw [if_pos q]; exact hk _ _ _ _ _ _ hl h
    · cases h
  iterate 2
    · split at h
      · exact hk _ _ _ _ _ _ hl h
      · cases h
  · split at h
    · split at h
      · rename_i q; rw [if_pos q]; exact hk _ _ _ _ _ _ hl h
      · cases h
    · cases h
  · split at h
    · cases h
    · split at h
      · cases h
      · split at h
        · split at h
          · rename_i q
            rw [if_pos q]
            split at h
            · exact hk _ _ _ _ _ _ hl h
            · exact hk _ _ _ _ _ _ hl h
            · cases h
          · cases h
        · cases h
  · split at h
    · rename_i q; rw [if_pos q]; exact h
    · rename_i q; rw [if_neg q]
      split at h
      · rename_i e
        obtain ⟨l1', q1, q2⟩ := pstep_lle e hl
        rw [q1]; exact hk _ _ _ _ _ _ q2 h
      · cases h
theorem cexec_lle {P : Cl} : ∀ f mi me c pc ls ls' st s r, lle ls ls' → cexec P f mi me c pc ls st s = some r → cexec P f mi me c pc ls' st s = some r := by
  intro f
  induction f with
  | zero => intro mi me c pc ls ls' st s r _ h; cases h
  | succ f ih =>
    intro mi me c pc ls ls' st s r hl h
    rw [cexec] at h ⊢
    split at h
    · cases h
    · exact cstep_lle hl (fun c pc ls ls' st s hl h => ih _ _ _ _ _ _ _ _ _ hl h) h
theorem wpc_lle {P : Cl} {mi : Nat} {me : Me} {c pc : Nat} {ls ls' : Lv} {st : List Value} {s : St} {Q : Option Value → St → Prop} (hl : lle' ls ls') (h : wpc P mi me c pc ls st s Q) : wpc P mi me c pc ls' st s Q := by
  obtain ⟨f, v, s', h1, h2⟩ := h; exact ⟨f, v, s', cexec_lle _ _ _ _ _ _ _ _ _ _ (lle_of hl) h1, h2⟩
end Jvm.LM

namespace Jvm.LM
open Sem ClassFile Op Lib Jvm.Stand Jvm.Free Jvm.LawKit Jvm.RoadKit
theorem lstep_mono {α : Type} {P : Cl} {Q : Lw} {sc : Sc} {mi : Nat} {me : Me} {rt : Option Value → Wd → Option α} {cc cc' : Nat → Nat → List Value → St → Rs} {cl cl' : Nat → List Value → Wd → Rw} {k k' : Nat → Lv → List Value → Wd → Option α} {i : Instr} {pc : Nat} {ls : Lv} {st : List Value} {w : Wd} {r : α}
    (hcc : ∀ m c as s r, cc m c as s = some r → cc' m c as s = some r) (hcl : ∀ m as s r, cl m as s = some r → cl' m as s = some r) (hk : ∀ pc ls st s r, k pc ls st s = some r → k' pc ls st s = some r) (h : lstep P Q sc mi me rt cc cl k i pc ls st w = some r) : lstep P Q sc mi me rt cc' cl' k' i pc ls st w = some r := by
  unfold lstep at h ⊢
  split at h
  all_goals (try dsimp only)
  · split at h
    · split at h
      · rename_i q; rw [if_pos q]; exact hk _ _ _ _ _ h
      · cases h
    · cases h
  · split at h
    · exact hk _ _ _ _ _ h
    · cases h
  · split at h
    · exact hk _ _ _ _ _ h
    · cases h
  · split at h
    · exact hk _ _ _ _ _ h
    · cases h
  · split at h
    · rename_i q; rw [if_pos q]; exact hk _ _ _ _ _ h
    · cases h
  · split at h
    · cases h
    · split at h
      · split at h
        · rename_i q
          rw [if_pos q]
          split at h
          · rename_i s1 hc; rw [hcc _ _ _ _ _ hc]; exact hk _ _ _ _ _ h
          · cases h
        · cases h
      · cases h
  · split at h
    · cases h
    · split at h
      · cases h
      · split at h
        · split at h
          · rename_i q
            rw [if_pos q]
            split at h
            · rename_i s1 hc; rw [hcc _ _ _ _ _ hc]; exact hk _ _ _ _ _ h
            · rename_i v1 s1 hc; rw [hcc _ _ _ _ _ hc]; exact hk _ _ _ _ _ h
            · cases h
          · cases h
        · cases h
  · split at h
    · cases h
    · split at h
      · cases h
      · split at h
        · rename_i q
          rw [if_pos q]
          split at h
          · rename_i s1 hc; rw [hcl _ _ _ _ hc]; exact hk _ _ _ _ _ h
          · rename_i v1 s1 hc; rw [hcl _ _ _ _ hc]; exact hk _ _ _ _ _ h
          · cases h
        · cases h
  · split at h
    · rename_i q; rw [if_pos q]; exact h
    · rename_i q; rw [if_neg q]
      split at h
      · exact hk _ _ _ _ _ h
      · cases h
theorem lexec_succ {P : Cl} {Q : Lw} {sc : Sc} : ∀ f mi me pc ls st w r, lexec P Q sc f mi me pc ls st w = some r → lexec P Q sc (f + 1) mi me pc ls st w = some r := by
  intro f
  induction f with
  | zero => intro mi me pc ls st s r h; cases h
  | succ f ih =>
    intro mi me pc ls st s r h
    rw [lexec] at h ⊢
    split at h
    · cases h
    · refine lstep_mono (fun m c as s r h => ccall_le (Nat.le_succ _) h) (fun m as s r h => ?_) (fun pc ls st s r h => ih _ _ _ _ _ _ _ h) h
      split at h
      · split at h
        · rename_i q; rw [if_pos q]; exact ih _ _ _ _ _ _ _ h
        · cases h
      · cases h
theorem lexec_le {P : Cl} {Q : Lw} {sc : Sc} {f g mi : Nat} {me : Me} {pc : Nat} {ls : Lv} {st : List Value} {w : Wd} {r : Option Value × Wd} (hfg : f ≤ g) (h : lexec P Q sc f mi me pc ls st w = some r) : lexec P Q sc g mi me pc ls st w = some r := by
  obtain ⟨d, rfl⟩ := Nat.le.dest hfg
  induction d with
  | zero => exact h
  | succ d ih => exact lexec_succ _ _ _ _ _ _ _ _ (ih (Nat.le_add_right _ _))
theorem lcall_le {P : Cl} {Q : Lw} {sc : Sc} {f g m' : Nat} {as : List Value} {w : Wd} {r : Option Value × Wd} (hfg : f ≤ g) (h : lcall P Q sc f m' as w = some r) : lcall P Q sc g m' as w = some r := by
  unfold lcall at h ⊢
  split at h
  · split at h
    · rename_i q; rw [if_pos q]; exact lexec_le hfg h
    · cases h
  · cases h
def wpl (P : Cl) (Q : Lw) (sc : Sc) (mi : Nat) (me : Me) (pc : Nat) (ls : Lv) (st : List Value) (w : Wd) (R : Option Value → Wd → Prop) : Prop := ∃ f v w', lexec P Q sc f mi me pc ls st w = some (v, w') ∧ R v w'
def lal (P : Cl) (Q : Lw) (sc : Sc) (m' : Nat) (as : List Value) (w : Wd) (R : Option Value → Wd → Prop) : Prop := ∃ f v w', lcall P Q sc f m' as w = some (v, w') ∧ R v w'
def lalI (P : Cl) (Q : Lw) (sc : Sc) (m' : Nat) (as : List Value) (w : Wd) (R : Int32 → Wd → Prop) : Prop := lal P Q sc m' as w fun r w' => ∃ v, r = some (.int v) ∧ R v w'
def lalL (P : Cl) (Q : Lw) (sc : Sc) (m' : Nat) (as : List Value) (w : Wd) (R : Int64 → Wd → Prop) : Prop := lal P Q sc m' as w fun r w' => ∃ v, r = some (.long v) ∧ R v w'
def lalV (P : Cl) (Q : Lw) (sc : Sc) (m' : Nat) (as : List Value) (w : Wd) (R : Wd → Prop) : Prop := lal P Q sc m' as w fun r w' => r = none ∧ R w'
theorem lal.mono {P : Cl} {Q : Lw} {sc : Sc} {m' : Nat} {as : List Value} {w : Wd} {R R' : Option Value → Wd → Prop} (h : lal P Q sc m' as w R) (hq : ∀ v s', R v s' → R' v s') : lal P Q sc m' as w R' := by
  obtain ⟨f, v, s', h1, h2⟩ := h; exact ⟨f, v, s', h1, hq _ _ h2⟩
theorem lalI.mono {P : Cl} {Q : Lw} {sc : Sc} {m' : Nat} {as : List Value} {w : Wd} {R R' : Int32 → Wd → Prop} (h : lalI P Q sc m' as w R) (hq : ∀ v s', R v s' → R' v s') : lalI P Q sc m' as w R' := lal.mono h fun _ _ ⟨v, e, q⟩ => ⟨v, e, hq _ _ q⟩
theorem lalL.mono {P : Cl} {Q : Lw} {sc : Sc} {m' : Nat} {as : List Value} {w : Wd} {R R' : Int64 → Wd → Prop} (h : lalL P Q sc m' as w R) (hq : ∀ v s', R v s' → R' v s') : lalL P Q sc m' as w R' := lal.mono h fun _ _ ⟨v, e, q⟩ => ⟨v, e, hq _ _ q⟩
theorem lalV.mono {P : Cl} {Q : Lw} {sc : Sc} {m' : Nat} {as : List Value} {w : Wd} {R R' : Wd → Prop} (h : lalV P Q sc m' as w R) (hq : ∀ s', R s' → R' s') : lalV P Q sc m' as w R' := lal.mono h fun _ _ ⟨e, q⟩ => ⟨e, hq _ q⟩
theorem wpl.mono {P : Cl} {Q : Lw} {sc : Sc} {mi : Nat} {me : Me} {pc : Nat} {ls : Lv} {st : List Value} {w : Wd} {R R' : Option Value → Wd → Prop} (h : wpl P Q sc mi me pc ls st w R) (hq : ∀ v s', R v s' → R' v s') : wpl P Q sc mi me pc ls st w R' := by
  obtain ⟨f, v, s', h1, h2⟩ := h; exact ⟨f, v, s', h1, hq _ _ h2⟩
theorem wpl_one {P : Cl} {Q : Lw} {sc : Sc} {mi : Nat} {me : Me} {pc pc' : Nat} {ls ls' : Lv} {st st' : List Value} {w w' : Wd} {R : Option Value → Wd → Prop} {i : Instr} {n : Nat} (hf : fetch me.cd pc = some (i, n))
    (h : ∀ (rt : Option Value → Wd → Rw) cc cl (k : Nat → Lv → List Value → Wd → Rw), lstep P Q sc mi me rt cc cl k i pc ls st w = k pc' ls' st' w') (hq : wpl P Q sc mi me pc' ls' st' w' R) : wpl P Q sc mi me pc ls st w R := by
  obtain ⟨f, v, s2, h1, h2⟩ := hq
  refine ⟨f + 1, v, s2, ?_, h2⟩
  rw [lexec, hf]; dsimp only; rw [h]; exact h1
/-- plain steps: nothing of the heap, no call -/
def isPl : Instr → Bool
  | .iaload => false | .arraylength => false | .ldc _ => false | .ldc2_w _ => false | .new _ => false | .invokespecial _ => false | .invokevirtual _ => false | .invokestatic _ => false
  | .ireturn => false | .lreturn => false | .return_ => false
  | _ => true
theorem lstep_pl {α : Type} {P : Cl} {Q : Lw} {sc : Sc} {mi : Nat} {me : Me} {rt : Option Value → Wd → Option α} {cc : Nat → Nat → List Value → St → Rs} {cl : Nat → List Value → Wd → Rw} {k : Nat → Lv → List Value → Wd → Option α} {i : Instr} {pc : Nat} {ls : Lv} {st : List Value} {w : Wd} (hi : isPl i = true) :
    lstep P Q sc mi me rt cc cl k i pc ls st w = match pstep i pc ls st with | some (pc', ls', st') => k pc' ls' st' w | none => none := by
  cases i <;> first | (cases hi; done) | rfl
def psl (kx : List (Nat × Value)) (cd : Cd) : Nat → Nat → Lv → List Value → Option (Nat × Lv × List Value)
  | 0, pc, ls, st => some (pc, ls, st)
  | n + 1, pc, ls, st => match fetch cd pc with
    | none => none
    | some (i, _) => match i with
      | .ldc x => (match asc kx x with | some (.int z) => psl kx cd n (pc + 2) ls (.int z :: st) | _ => none)
      | .ldc2_w x => (match asc kx x with | some (.long z) => psl kx cd n (pc + 3) ls (.long z :: st) | _ => none)
      | i => if isPl i = true then (match pstep i pc ls st with | some (pc', ls', st') => psl kx cd n pc' ls' st' | none => none) else none
theorem wpl_sl {P : Cl} {Q : Lw} {sc : Sc} {mi : Nat} {me : Me} {w : Wd} {R : Option Value → Wd → Prop} : ∀ {n pc pc' : Nat} {ls ls' : Lv} {st st' : List Value}, psl Q.kx me.cd n pc ls st = some (pc', ls', st') → wpl P Q sc mi me pc' ls' st' w R → wpl P Q sc mi me pc ls st w R := by
  intro n
  induction n with
  | zero => intro pc pc' ls ls' st st' h hq; cases h; exact hq
  | succ n ih =>
    intro pc pc' ls ls' st st' h hq
    simp only [psl] at h
    split at h
    · cases h
    · rename_i i m hf
      split at h
      · split at h
        · rename_i z e
          exact wpl_one hf (fun rt cc cl k => by simp only [lstep, e]) (ih h hq)
        · cases h
      · split at h
        · rename_i z e
          exact wpl_one hf (fun rt cc cl k => by simp only [lstep, e]) (ih h hq)
        · cases h
      · split at h
        · rename_i hi
          split at h
          · rename_i pc1 ls1 st1 e
            exact wpl_one hf (fun rt cc cl k => by rw [lstep_pl hi, e]) (ih h hq)
          · cases h
        · cases h
theorem wpl_ret {P : Cl} {Q : Lw} {sc : Sc} {mi : Nat} {me : Me} {pc : Nat} {ls : Lv} {st : List Value} {w : Wd} {R : Option Value → Wd → Prop} {i : Instr} {n : Nat} {v : Option Value} (hf : fetch me.cd pc = some (i, n)) (hr : isRet i = true) (h : cret me st i = some v) (hq : R v w) : wpl P Q sc mi me pc ls st w R := by
  refine ⟨1, v, w, ?_, hq⟩
  rw [lexec, hf]; dsimp only
  cases i <;> first | (cases hr; done) | (simp only [lstep]; rw [if_pos hr, h])
theorem wpl_if {P : Cl} {Q : Lw} {sc : Sc} {mi : Nat} {me : Me} {pc a b : Nat} {ls : Lv} {r : List Value} {w : Wd} {R : Option Value → Wd → Prop} {cd : ClassFile.Cond} {o : Int} {n : Nat} {x : Int32} (hf : fetch me.cd pc = some (.ifCond cd o, n)) (ho : 0 ≤ (pc : Int) + o) (ha : jmp pc o = a) (hb : pc + 3 = b)
    (hq : wpl P Q sc mi me (br cd x 0 a b) ls r w R) : wpl P Q sc mi me pc ls (.int x :: r) w R := by
  subst ha hb
  refine wpl_one hf (fun rt cc cl k => ?_) hq
  rw [lstep_pl rfl]
  simp only [pstep, qstep]; rw [if_pos ho]
theorem wpl_icmp {P : Cl} {Q : Lw} {sc : Sc} {mi : Nat} {me : Me} {pc a b : Nat} {ls : Lv} {r : List Value} {w : Wd} {R : Option Value → Wd → Prop} {cd : ClassFile.Cond} {o : Int} {n : Nat} {x y : Int32} (hf : fetch me.cd pc = some (.if_icmp cd o, n)) (ho : 0 ≤ (pc : Int) + o) (ha : jmp pc o = a) (hb : pc + 3 = b)
    (hq : wpl P Q sc mi me (br cd x y a b) ls r w R) : wpl P Q sc mi me pc ls (.int y :: .int x :: r) w R := by
  subst ha hb
  refine wpl_one hf (fun rt cc cl k => ?_) hq
  rw [lstep_pl rfl]
  simp only [pstep, qstep]; rw [if_pos ho]
theorem wpl_br {P : Cl} {Q : Lw} {sc : Sc} {mi : Nat} {me : Me} {a b : Nat} {ls : Lv} {st : List Value} {w : Wd} {R : Option Value → Wd → Prop} {p : Prop} [Decidable p] (h : (p → wpl P Q sc mi me a ls st w R) ∧ (¬ p → wpl P Q sc mi me b ls st w R)) : wpl P Q sc mi me (if p then a else b) ls st w R := by
  by_cases hp : p
  · rw [if_pos hp]; exact h.1 hp
  · rw [if_neg hp]; exact h.2 hp
theorem wpl_lda {P : Cl} {Q : Lw} {N : Nat} {g : Nat → Int32} {mi : Nat} {me : Me} {pc : Nat} {ls : Lv} {r : List Value} {w : Wd} {R : Option Value → Wd → Prop} {n : Nat} {j : Int32} (hf : fetch me.cd pc = some (.iaload, n)) (hj : inb N j) (hq : wpl P Q (some (N, g)) mi me (pc + 1) ls (.int (g (ix j)) :: r) w R) : wpl P Q (some (N, g)) mi me pc ls (.int j :: .ref 0 :: r) w R := by
  refine wpl_one hf (fun rt cc cl k => ?_) hq
  simp only [lstep]; rw [if_pos hj]
theorem wpl_len {P : Cl} {Q : Lw} {N : Nat} {g : Nat → Int32} {mi : Nat} {me : Me} {pc : Nat} {ls : Lv} {r : List Value} {w : Wd} {R : Option Value → Wd → Prop} {n : Nat} (hf : fetch me.cd pc = some (.arraylength, n)) (hq : wpl P Q (some (N, g)) mi me (pc + 1) ls (.int (Int32.ofNat N) :: r) w R) : wpl P Q (some (N, g)) mi me pc ls (.ref 0 :: r) w R := by
  refine wpl_one hf (fun rt cc cl k => ?_) hq
  simp only [lstep]
theorem wpl_new {P : Cl} {Q : Lw} {sc : Sc} {me : Me} {pc cnt : Nat} {ls : Lv} {st : List Value} {os : Nat → St} {R : Option Value → Wd → Prop} {n x : Nat} (hf : fetch me.cd pc = some (.new x, n)) (hx : x = Q.cx) (h1 : (cnt + 1) * (P.al.length + 1) ≤ Q.rc) (h2 : (cnt + 1) * (Q.nf + zs P.al P.al.length) ≤ Q.rs)
    (hq : wpl P Q sc 0 me (pc + 3) ls (.ref (cnt + 1) :: st) (uo os cnt s0, cnt, true) R) : wpl P Q sc 0 me pc ls st (os, cnt, false) R := by
  refine wpl_one hf (fun rt cc cl k => ?_) hq
  simp only [lstep]; rw [if_pos ⟨trivial, hx, trivial, h1, h2⟩]
theorem wpl_ctor {P : Cl} {Q : Lw} {sc : Sc} {me me' : Me} {pc cnt : Nat} {ls : Lv} {st r as : List Value} {os : Nat → St} {R : Option Value → Wd → Prop} {n x : Nat} (hf : fetch me.cd pc = some (.invokespecial x, n)) (hx : x = Q.ci) (hme : asc P.ms 0 = some me') (hst : st.drop me'.na = .ref (cnt + 1) :: r) (has : (st.take me'.na).reverse = as)
    (hg : me'.rf + 1 ≤ me.rf ∧ cats r + (me'.ml + 11) + me'.rl ≤ me.rl ∧ nr (st.take me'.na) = true ∧ (cnt + 1) * (P.al.length + 1) ≤ Q.rc ∧ (cnt + 1) * (Q.nf + zs P.al P.al.length) ≤ Q.rs)
    (hq : calV P 0 0 (.ref 0 :: as) (os cnt) fun s' => wpl P Q sc 0 me (pc + 3) ls r (uo os cnt s', cnt + 1, false) R) : wpl P Q sc 0 me pc ls st (os, cnt, true) R := by
  subst has
  obtain ⟨f1, v, s1, h1, rfl, f2, v2, s2, h2, h3⟩ := hq
  refine ⟨max f1 f2 + 1, v2, s2, ?_, h3⟩
  have h1' := ccall_le (Nat.le_max_left f1 f2) h1
  have h2' := lexec_le (Nat.le_max_right f1 f2) h2
  rw [lexec, hf]; dsimp only
  simp only [lstep, hme, hst]
  rw [if_pos ⟨hx, trivial, trivial, trivial, hg⟩, h1']
  exact h2'
theorem wpl_call {P : Cl} {Q : Lw} {sc : Sc} {mi : Nat} {me me' : Me} {pc x m' o : Nat} {ls : Lv} {st r as : List Value} {w : Wd} {R : Option Value → Wd → Prop} {n : Nat} (hf : fetch me.cd pc = some (.invokevirtual x, n)) (hm : asc Q.vx x = some m') (hme : asc P.ms m' = some me') (hst : st.drop me'.na = .ref (o + 1) :: r) (has : (st.take me'.na).reverse = as)
    (hg : m' ≠ 0 ∧ o < w.2.1 ∧ me'.rf + 1 ≤ me.rf ∧ cats r + (me'.ml + 11) + me'.rl ≤ me.rl ∧ nr (st.take me'.na) = true)
    (hq : cal P m' P.al.length (.ref 0 :: as) (w.1 o) fun v s' => wpl P Q sc mi me (pc + 3) ls (v.toList ++ r) (uo w.1 o s', w.2.1, w.2.2) R) : wpl P Q sc mi me pc ls st w R := by
  subst has
  obtain ⟨f1, v, s1, h1, f2, v2, s2, h2, h3⟩ := hq
  refine ⟨max f1 f2 + 1, v2, s2, ?_, h3⟩
  have h1' := ccall_le (Nat.le_max_left f1 f2) h1
  have h2' := lexec_le (Nat.le_max_right f1 f2) h2
  rw [lexec, hf]; dsimp only
  simp only [lstep, hm, hme, hst]
  rw [if_pos hg, h1']
  cases v <;> exact h2'
theorem wpl_stat {P : Cl} {Q : Lw} {sc : Sc} {mi : Nat} {me me' : Me} {pc x m' : Nat} {ls : Lv} {st r as : List Value} {w : Wd} {R : Option Value → Wd → Prop} {n : Nat} (hf : fetch me.cd pc = some (.invokestatic x, n)) (hm : asc Q.sx x = some m') (hme : asc Q.ms m' = some me') (hst : st.drop me'.na = r) (has : (st.take me'.na).reverse = as)
    (hg : m' ≠ 0 ∧ me'.na ≤ st.length ∧ me'.rf + 1 ≤ me.rf ∧ cats r + (me'.ml + 11) + me'.rl ≤ me.rl ∧ nd (st.take me'.na) = true)
    (hq : lal P Q sc m' as w fun v w' => wpl P Q sc mi me (pc + 3) ls (v.toList ++ r) w' R) : wpl P Q sc mi me pc ls st w R := by
  subst has hst
  obtain ⟨f1, v, s1, h1, f2, v2, s2, h2, h3⟩ := hq
  refine ⟨max f1 f2 + 1, v2, s2, ?_, h3⟩
  have h1' := lcall_le (Nat.le_max_left f1 f2) h1
  have h2' := lexec_le (Nat.le_max_right f1 f2) h2
  rw [lexec, hf]; dsimp only
  simp only [lstep, hm, hme]
  rw [if_pos hg]
  simp only [lcall, hme] at h1'
  rw [h1']
  cases v <;> exact h2'
theorem lal_of {P : Cl} {Q : Lw} {sc : Sc} {m' : Nat} {as : List Value} {w : Wd} {R : Option Value → Wd → Prop} {me : Me} {ls : Lv} (hme : asc Q.ms m' = some me) (hl : (layA as).length ≤ me.ml) (hls : lay as me.ml = ls) (h : wpl P Q sc m' me 0 ls [] w R) : lal P Q sc m' as w R := by
  subst hls
  obtain ⟨f, v, s', h1, h2⟩ := h
  refine ⟨f, v, s', ?_, h2⟩
  simp only [lcall, hme]; rw [if_pos hl]; exact h1
theorem lstep_lle {P : Cl} {Q : Lw} {sc : Sc} {mi : Nat} {me : Me} {rt : Option Value → Wd → Rw} {cc : Nat → Nat → List Value → St → Rs} {cl : Nat → List Value → Wd → Rw} {k : Nat → Lv → List Value → Wd → Rw} {i : Instr} {pc : Nat} {ls ls' : Lv} {st : List Value} {w : Wd} {r : Option Value × Wd} (hl : lle ls ls')
    (hk : ∀ pc ls ls' st s, lle ls ls' → k pc ls st s = some r → k pc ls' st s = some r) (h : lstep P Q sc mi me rt cc cl k i pc ls st w = some r) : lstep P Q sc mi me rt cc cl k i pc ls' st w = some r := by
  unfold lstep at h ⊢
  split at h
  all_goals (try dsimp only)
  · split at h
    · split at h
      · rename_i q; rw [if_pos q]; exact hk _ _ _ _ _ hl h
      · cases h
    · cases h
  iterate 3
    · split at h
      · exact hk _ _ _ _ _ hl h
      · cases h
  · split at h
    · rename_i q; rw [if_pos q]; exact hk _ _ _ _ _ hl h
    · cases h
  · split at h
    · cases h
    · split at h
      · split at h
        · rename_i q
          rw [if_pos q]
          split at h
          · exact hk _ _ _ _ _ hl h
          · cases h
        · cases h
      · cases h
  · split at h
    · cases h
    · split at h
      · cases h
      · split at h
        · split at h
          · rename_i q
            rw [if_pos q]
            split at h
            · exact hk _ _ _ _ _ hl h
            · exact hk _ _ _ _ _ hl h
            · cases h
          · cases h
        · cases h
  · split at h
    · cases h
    · split at h
      · cases h
      · split at h
        · rename_i q
          rw [if_pos q]
          split at h
          · exact hk _ _ _ _ _ hl h
          · exact hk _ _ _ _ _ hl h
          · cases h
        · cases h
  · split at h
    · rename_i q; rw [if_pos q]; exact h
    · rename_i q; rw [if_neg q]
      split at h
      · rename_i e
        obtain ⟨l1', q1, q2⟩ := pstep_lle e hl
        rw [q1]; exact hk _ _ _ _ _ q2 h
      · cases h
theorem lexec_lle {P : Cl} {Q : Lw} {sc : Sc} : ∀ f mi me pc ls ls' st w r, lle ls ls' → lexec P Q sc f mi me pc ls st w = some r → lexec P Q sc f mi me pc ls' st w = some r := by
  intro f
  induction f with
  | zero => intro mi me pc ls ls' st w r _ h; cases h
  | succ f ih =>
    intro mi me pc ls ls' st w r hl h
    rw [lexec] at h ⊢
    split at h
    · cases h
    · exact lstep_lle hl (fun pc ls ls' st s hl h => ih _ _ _ _ _ _ _ _ hl h) h
theorem wpl_lle {P : Cl} {Q : Lw} {sc : Sc} {mi : Nat} {me : Me} {pc : Nat} {ls ls' : Lv} {st : List Value} {w : Wd} {R : Option Value → Wd → Prop} (hl : lle' ls ls') (h : wpl P Q sc mi me pc ls st w R) : wpl P Q sc mi me pc ls' st w R := by
  obtain ⟨f, v, s', h1, h2⟩ := h; exact ⟨f, v, s', lexec_lle _ _ _ _ _ _ _ _ _ (lle_of hl) h1, h2⟩
/-! worlds of no, one and two objects -/
def W0 : Wd := (fun _ => s0, 0, false)
def W0p : Wd := (uo (fun _ => s0) 0 s0, 0, true)
def W1 (s : St) : Wd := (uo (fun _ => s0) 0 s, 1, false)
def W1p (s : St) : Wd := (uo (uo (fun _ => s0) 0 s) 1 s0, 1, true)
def W2 (s t : St) : Wd := (uo (uo (fun _ => s0) 0 s) 1 t, 2, false)
theorem uo_uo (f : Nat → St) (o : Nat) (s t : St) : uo (uo f o s) o t = uo f o t := by
  funext i; simp only [uo]; split <;> rfl
theorem uo_swap (f : Nat → St) {o o' : Nat} (h : o ≠ o') (s t : St) : uo (uo f o s) o' t = uo (uo f o' t) o s := by
  funext i; simp only [uo]
  by_cases a : i = o
  · subst a; simp [h]
  · by_cases b : i = o'
    · subst b; simp [Ne.symm h]
    · simp [a, b]
section Worlds
variable {P : Cl} {Q : Lw} {sc : Sc} {mi : Nat} {me me' : Me} {pc x m' : Nat} {ls : Lv} {st r as : List Value} {R : Option Value → Wd → Prop} {n : Nat} {s t : St}
theorem wpl_new0 (hf : fetch me.cd pc = some (.new x, n)) (hx : x = Q.cx) (h1 : 1 * (P.al.length + 1) ≤ Q.rc) (h2 : 1 * (Q.nf + zs P.al P.al.length) ≤ Q.rs) (hq : wpl P Q sc 0 me (pc + 3) ls (.ref 1 :: st) W0p R) : wpl P Q sc 0 me pc ls st W0 R := wpl_new (cnt := 0) hf hx h1 h2 hq
theorem wpl_new1 (hf : fetch me.cd pc = some (.new x, n)) (hx : x = Q.cx) (h1 : 2 * (P.al.length + 1) ≤ Q.rc) (h2 : 2 * (Q.nf + zs P.al P.al.length) ≤ Q.rs) (hq : wpl P Q sc 0 me (pc + 3) ls (.ref 2 :: st) (W1p s) R) : wpl P Q sc 0 me pc ls st (W1 s) R := wpl_new (cnt := 1) hf hx h1 h2 hq
theorem wpl_ctor0 (hf : fetch me.cd pc = some (.invokespecial x, n)) (hx : x = Q.ci) (hme : asc P.ms 0 = some me') (hst : st.drop me'.na = .ref 1 :: r) (has : (st.take me'.na).reverse = as)
    (hg : me'.rf + 1 ≤ me.rf ∧ cats r + (me'.ml + 11) + me'.rl ≤ me.rl ∧ nr (st.take me'.na) = true ∧ 1 * (P.al.length + 1) ≤ Q.rc ∧ 1 * (Q.nf + zs P.al P.al.length) ≤ Q.rs)
    (hq : calV P 0 0 (.ref 0 :: as) s0 fun s' => wpl P Q sc 0 me (pc + 3) ls r (W1 s') R) : wpl P Q sc 0 me pc ls st W0p R := by
  refine wpl_ctor (cnt := 0) hf hx hme hst has hg ?_
  refine calV.mono (show calV P 0 0 (.ref 0 :: as) (uo (fun _ => s0) 0 s0 0) _ from hq) fun s' h => ?_
  rw [uo_uo]; exact h
theorem wpl_ctor1 (hf : fetch me.cd pc = some (.invokespecial x, n)) (hx : x = Q.ci) (hme : asc P.ms 0 = some me') (hst : st.drop me'.na = .ref 2 :: r) (has : (st.take me'.na).reverse = as)
    (hg : me'.rf + 1 ≤ me.rf ∧ cats r + (me'.ml + 11) + me'.rl ≤ me.rl ∧ nr (st.take me'.na) = true ∧ 2 * (P.al.length + 1) ≤ Q.rc ∧ 2 * (Q.nf + zs P.al P.al.length) ≤ Q.rs)
    (hq : calV P 0 0 (.ref 0 :: as) s0 fun s' => wpl P Q sc 0 me (pc + 3) ls r (W2 s s') R) : wpl P Q sc 0 me pc ls st (W1p s) R := by
  refine wpl_ctor (cnt := 1) hf hx hme hst has hg ?_
  refine calV.mono (show calV P 0 0 (.ref 0 :: as) (uo (uo (fun _ => s0) 0 s) 1 s0 1) _ from hq) fun s' h => ?_
  rw [uo_uo]; exact h
theorem wpl_v1 (hf : fetch me.cd pc = some (.invokevirtual x, n)) (hm : asc Q.vx x = some m') (hme : asc P.ms m' = some me') (hst : st.drop me'.na = .ref 1 :: r) (has : (st.take me'.na).reverse = as)
    (hg : m' ≠ 0 ∧ me'.rf + 1 ≤ me.rf ∧ cats r + (me'.ml + 11) + me'.rl ≤ me.rl ∧ nr (st.take me'.na) = true)
    (hq : cal P m' P.al.length (.ref 0 :: as) s fun v s' => wpl P Q sc mi me (pc + 3) ls (v.toList ++ r) (W1 s') R) : wpl P Q sc mi me pc ls st (W1 s) R := by
  refine wpl_call (o := 0) hf hm hme hst has ⟨hg.1, by show 0 < 1; decide, hg.2⟩ ?_
  refine cal.mono (show cal P m' P.al.length (.ref 0 :: as) ((W1 s).1 0) _ from hq) fun v s' h => ?_
  show wpl P Q sc mi me (pc + 3) ls (v.toList ++ r) (uo (uo (fun _ => s0) 0 s) 0 s', 1, false) R
  rw [uo_uo]; exact h
theorem wpl_v2a (hf : fetch me.cd pc = some (.invokevirtual x, n)) (hm : asc Q.vx x = some m') (hme : asc P.ms m' = some me') (hst : st.drop me'.na = .ref 1 :: r) (has : (st.take me'.na).reverse = as)
    (hg : m' ≠ 0 ∧ me'.rf + 1 ≤ me.rf ∧ cats r + (me'.ml + 11) + me'.rl ≤ me.rl ∧ nr (st.take me'.na) = true)
    (hq : cal P m' P.al.length (.ref 0 :: as) s fun v s' => wpl P Q sc mi me (pc + 3) ls (v.toList ++ r) (W2 s' t) R) : wpl P Q sc mi me pc ls st (W2 s t) R := by
  refine wpl_call (o := 0) hf hm hme hst has ⟨hg.1, by show 0 < 2; decide, hg.2⟩ ?_
  refine cal.mono (show cal P m' P.al.length (.ref 0 :: as) ((W2 s t).1 0) _ from hq) fun v s' h => ?_
  show wpl P Q sc mi me (pc + 3) ls (v.toList ++ r) (uo (uo (uo (fun _ => s0) 0 s) 1 t) 0 s', 2, false) R
  rw [uo_swap _ (by decide), uo_uo]; exact h
theorem wpl_v2b (hf : fetch me.cd pc = some (.invokevirtual x, n)) (hm : asc Q.vx x = some m') (hme : asc P.ms m' = some me') (hst : st.drop me'.na = .ref 2 :: r) (has : (st.take me'.na).reverse = as)
    (hg : m' ≠ 0 ∧ me'.rf + 1 ≤ me.rf ∧ cats r + (me'.ml + 11) + me'.rl ≤ me.rl ∧ nr (st.take me'.na) = true)
    (hq : cal P m' P.al.length (.ref 0 :: as) t fun v s' => wpl P Q sc mi me (pc + 3) ls (v.toList ++ r) (W2 s s') R) : wpl P Q sc mi me pc ls st (W2 s t) R := by
  refine wpl_call (o := 1) hf hm hme hst has ⟨hg.1, by show 1 < 2; decide, hg.2⟩ ?_
  refine cal.mono (show cal P m' P.al.length (.ref 0 :: as) ((W2 s t).1 1) _ from hq) fun v s' h => ?_
  show wpl P Q sc mi me (pc + 3) ls (v.toList ++ r) (uo (uo (uo (fun _ => s0) 0 s) 1 t) 1 s', 2, false) R
  rw [uo_uo]; exact h
end Worlds
theorem cal_I {P : Cl} {m' c : Nat} {as : List Value} {s : St} {F : Option Value → St → Prop} (h : calI P m' c as s fun v s' => F (some (.int v)) s') : cal P m' c as s F := cal.mono h fun _ _ ⟨v, e, q⟩ => by subst e; exact q
theorem cal_L {P : Cl} {m' c : Nat} {as : List Value} {s : St} {F : Option Value → St → Prop} (h : calL P m' c as s fun v s' => F (some (.long v)) s') : cal P m' c as s F := cal.mono h fun _ _ ⟨v, e, q⟩ => by subst e; exact q
theorem cal_V {P : Cl} {m' c : Nat} {as : List Value} {s : St} {F : Option Value → St → Prop} (h : calV P m' c as s fun s' => F none s') : cal P m' c as s F := cal.mono h fun _ _ ⟨e, q⟩ => by subst e; exact q
theorem lal_I {P : Cl} {Q : Lw} {sc : Sc} {m' : Nat} {as : List Value} {w : Wd} {F : Option Value → Wd → Prop} (h : lalI P Q sc m' as w fun v w' => F (some (.int v)) w') : lal P Q sc m' as w F := lal.mono h fun _ _ ⟨v, e, q⟩ => by subst e; exact q
theorem lal_L {P : Cl} {Q : Lw} {sc : Sc} {m' : Nat} {as : List Value} {w : Wd} {F : Option Value → Wd → Prop} (h : lalL P Q sc m' as w fun v w' => F (some (.long v)) w') : lal P Q sc m' as w F := lal.mono h fun _ _ ⟨v, e, q⟩ => by subst e; exact q
theorem lal_V {P : Cl} {Q : Lw} {sc : Sc} {m' : Nat} {as : List Value} {w : Wd} {F : Option Value → Wd → Prop} (h : lalV P Q sc m' as w fun w' => F none w') : lal P Q sc m' as w F := lal.mono h fun _ _ ⟨e, q⟩ => by subst e; exact q
end Jvm.LM

namespace Jvm.LM
open Sem ClassFile Op Lib Jvm.Stand Jvm.Free Jvm.LawKit Jvm.RoadKit
/-! rules for the steps that ask something -/
abbrev wpcI (P : Cl) (mi : Nat) (me : Me) (c pc : Nat) (ls : Lv) (st : List Value) (s : St) (Q : Int32 → St → Prop) : Prop := wpc P mi me c pc ls st s fun r s' => ∃ v, r = some (.int v) ∧ Q v s'
abbrev wpcL (P : Cl) (mi : Nat) (me : Me) (c pc : Nat) (ls : Lv) (st : List Value) (s : St) (Q : Int64 → St → Prop) : Prop := wpc P mi me c pc ls st s fun r s' => ∃ v, r = some (.long v) ∧ Q v s'
abbrev wpcV (P : Cl) (mi : Nat) (me : Me) (c pc : Nat) (ls : Lv) (st : List Value) (s : St) (Q : St → Prop) : Prop := wpc P mi me c pc ls st s fun r s' => r = none ∧ Q s'
abbrev wplI (P : Cl) (Q : Lw) (sc : Sc) (mi : Nat) (me : Me) (pc : Nat) (ls : Lv) (st : List Value) (w : Wd) (R : Int32 → Wd → Prop) : Prop := wpl P Q sc mi me pc ls st w fun r w' => ∃ v, r = some (.int v) ∧ R v w'
abbrev wplL (P : Cl) (Q : Lw) (sc : Sc) (mi : Nat) (me : Me) (pc : Nat) (ls : Lv) (st : List Value) (w : Wd) (R : Int64 → Wd → Prop) : Prop := wpl P Q sc mi me pc ls st w fun r w' => ∃ v, r = some (.long v) ∧ R v w'
abbrev wplV (P : Cl) (Q : Lw) (sc : Sc) (mi : Nat) (me : Me) (pc : Nat) (ls : Lv) (st : List Value) (w : Wd) (R : Wd → Prop) : Prop := wpl P Q sc mi me pc ls st w fun r w' => r = none ∧ R w'
section C
variable {P : Cl} {mi : Nat} {me : Me} {c pc a N n : Nat} {ls : Lv} {r : List Value} {s s' : St} {Q : Option Value → St → Prop} {j : Int32}
theorem wpc_ldaI {v : Int32} (hf : fetch me.cd pc = some (.iaload, n)) (ha : P.al[a]? = some (0, N)) (hac : a < c) (hj : inb N j) (hv : gI s (a + 1) (ix j) = v) (hq : wpc P mi me c (pc + 1) ls (.int v :: r) s Q) : wpc P mi me c pc ls (.int j :: .ref (a + 1) :: r) s Q := by
  subst hv; exact wpc_lda hf (Or.inl ⟨rfl, rfl⟩) ha hac hj hq
theorem wpc_ldaZ {v : Int32} (hf : fetch me.cd pc = some (.baload, n)) (ha : P.al[a]? = some (1, N)) (hac : a < c) (hj : inb N j) (hv : gI s (a + 1) (ix j) = v) (hq : wpc P mi me c (pc + 1) ls (.int v :: r) s Q) : wpc P mi me c pc ls (.int j :: .ref (a + 1) :: r) s Q := by
  subst hv; exact wpc_lda hf (Or.inr (Or.inl ⟨rfl, rfl⟩)) ha hac hj hq
theorem wpc_ldaJ {v : Int64} (hf : fetch me.cd pc = some (.laload, n)) (ha : P.al[a]? = some (2, N)) (hac : a < c) (hj : inb N j) (hv : gL s (a + 1) (ix j) = v) (hq : wpc P mi me c (pc + 1) ls (.long v :: r) s Q) : wpc P mi me c pc ls (.int j :: .ref (a + 1) :: r) s Q := by
  subst hv; exact wpc_lda hf (Or.inr (Or.inr ⟨rfl, rfl⟩)) ha hac hj hq
theorem wpc_staI {z : Int32} (hf : fetch me.cd pc = some (.iastore, n)) (ha : P.al[a]? = some (0, N)) (hac : a < c) (hj : inb N j) (hs : sI s (a + 1) (ix j) z = s') (hq : wpc P mi me c (pc + 1) ls r s' Q) : wpc P mi me c pc ls (.int z :: .int j :: .ref (a + 1) :: r) s Q :=
  wpc_sta hf (Or.inl ⟨rfl, rfl, z, rfl, hs.symm⟩) ha hac hj hq
theorem wpc_staZ {z : Int32} (hf : fetch me.cd pc = some (.bastore, n)) (ha : P.al[a]? = some (1, N)) (hac : a < c) (hj : inb N j) (hs : sI s (a + 1) (ix j) (z &&& 1) = s') (hq : wpc P mi me c (pc + 1) ls r s' Q) : wpc P mi me c pc ls (.int z :: .int j :: .ref (a + 1) :: r) s Q :=
  wpc_sta hf (Or.inr (Or.inl ⟨rfl, rfl, z, rfl, hs.symm⟩)) ha hac hj hq
theorem wpc_staJ {z : Int64} (hf : fetch me.cd pc = some (.lastore, n)) (ha : P.al[a]? = some (2, N)) (hac : a < c) (hj : inb N j) (hs : sL s (a + 1) (ix j) z = s') (hq : wpc P mi me c (pc + 1) ls r s' Q) : wpc P mi me c pc ls (.long z :: .int j :: .ref (a + 1) :: r) s Q :=
  wpc_sta hf (Or.inr (Or.inr ⟨rfl, rfl, z, rfl, hs.symm⟩)) ha hac hj hq
theorem wpc_pl {i : Instr} {pc' : Nat} {ls' : Lv} {st st' : List Value} (hf : fetch me.cd pc = some (i, n)) (hi : ∀ (rt : Option Value → St → Rs) cl (k : Nat → Nat → Lv → List Value → St → Rs), cstep P mi me rt cl k i c pc ls st s = match pstep i pc ls st with | some (pc', ls', st') => k c pc' ls' st' s | none => none) (h : pstep i pc ls st = some (pc', ls', st')) (hq : wpc P mi me c pc' ls' st' s Q) : wpc P mi me c pc ls st s Q :=
  wpc_one hf (fun rt cl k => by rw [hi, h]) hq
theorem wpc_idiv {x y : Int32} (hf : fetch me.cd pc = some (.idiv, n)) (hy : ¬ y = 0) (hq : wpc P mi me c (pc + 1) ls (.int (x / y) :: r) s Q) : wpc P mi me c pc ls (.int y :: .int x :: r) s Q :=
  wpc_pl hf (fun _ _ _ => rfl) (by simp only [pstep, qstep]; rw [if_neg hy]) hq
theorem wpc_irem {x y : Int32} (hf : fetch me.cd pc = some (.irem, n)) (hy : ¬ y = 0) (hq : wpc P mi me c (pc + 1) ls (.int (x % y) :: r) s Q) : wpc P mi me c pc ls (.int y :: .int x :: r) s Q :=
  wpc_pl hf (fun _ _ _ => rfl) (by simp only [pstep, qstep]; rw [if_neg hy]) hq
theorem wpc_ldiv {x y : Int64} (hf : fetch me.cd pc = some (.ldiv, n)) (hy : ¬ y = 0) (hq : wpc P mi me c (pc + 1) ls (.long (x / y) :: r) s Q) : wpc P mi me c pc ls (.long y :: .long x :: r) s Q :=
  wpc_pl hf (fun _ _ _ => rfl) (by simp only [pstep, qstep]; rw [if_neg hy]) hq
end C
/-- the roads of a switch: one a value, from l on -/
def TS (x : Int32) (F : Int → Prop) : List Int → Int → Prop
  | [], _ => True
  | o :: r, l => (x.toInt = l → F o) ∧ TS x F r (l + 1)
theorem TS_at {x : Int32} {F : Int → Prop} : ∀ {os : List Int} {l : Int}, TS x F os l → l ≤ x.toInt → x.toInt < l + os.length → ∃ o, os[(x.toInt - l).toNat]? = some o ∧ F o := by
  intro os
  induction os with
  | nil => intro l _ h1 h2; simp at h2; omega
  | cons o r ih =>
    intro l h h1 h2
    by_cases e : x.toInt = l
    · exact ⟨o, by rw [e]; simp, h.1 e⟩
    · obtain ⟨o', q1, q2⟩ := ih h.2 (by omega) (by simp at h2; omega)
      refine ⟨o', ?_, q2⟩
      have : (x.toInt - l).toNat = (x.toInt - (l + 1)).toNat + 1 := by omega
      rw [this]; simpa using q1
theorem tsw_ok {x : Int32} {F : Int → Prop} {pc : Nat} {ls : Lv} {r : List Value} {d lo hi : Int} {offs : Array Int} (hd : 0 ≤ (pc : Int) + d) (ho : ∀ o ∈ offs.toList, 0 ≤ (pc : Int) + o) (hh : hi + 1 = lo + offs.toList.length)
    (h1 : TS x F offs.toList lo) (h2 : (x.toInt < lo ∨ x.toInt > hi) → F d) : ∃ o, F o ∧ pstep (.tableswitch d lo hi offs) pc ls (.int x :: r) = some (jmp pc o, ls, r) := by
  by_cases hx : x.toInt < lo ∨ x.toInt > hi
  · refine ⟨d, h2 hx, ?_⟩
    simp only [pstep, qstep]; rw [if_pos hx, if_pos hd]
  · obtain ⟨o, q1, q2⟩ := TS_at h1 (by omega) (by omega)
    have q3 : offs[(x.toInt - lo).toNat]? = some o := by rw [← Array.getElem?_toList]; exact q1
    refine ⟨o, q2, ?_⟩
    simp only [pstep, qstep]; rw [if_neg hx, q3]; dsimp only; rw [if_pos (ho o (List.mem_of_getElem? q1))]
theorem wpc_tsw {P : Cl} {mi : Nat} {me : Me} {c pc n : Nat} {ls : Lv} {r : List Value} {s : St} {Q : Option Value → St → Prop} {x : Int32} {d lo hi : Int} {offs : Array Int} (hf : fetch me.cd pc = some (.tableswitch d lo hi offs, n)) (hd : 0 ≤ (pc : Int) + d) (ho : ∀ o ∈ offs.toList, 0 ≤ (pc : Int) + o) (hh : hi + 1 = lo + offs.toList.length)
    (h1 : TS x (fun o => wpc P mi me c (jmp pc o) ls r s Q) offs.toList lo) (h2 : (x.toInt < lo ∨ x.toInt > hi) → wpc P mi me c (jmp pc d) ls r s Q) : wpc P mi me c pc ls (.int x :: r) s Q := by
  obtain ⟨o, q1, q2⟩ := tsw_ok (ls := ls) (r := r) hd ho hh h1 h2
  exact wpc_pl hf (fun _ _ _ => rfl) q2 q1
section L
variable {P : Cl} {Q : Lw} {sc : Sc} {mi : Nat} {me : Me} {pc n : Nat} {ls : Lv} {r : List Value} {w : Wd} {R : Option Value → Wd → Prop}
theorem wpl_pl {i : Instr} {pc' : Nat} {ls' : Lv} {st st' : List Value} (hf : fetch me.cd pc = some (i, n)) (hi : isPl i = true) (h : pstep i pc ls st = some (pc', ls', st')) (hq : wpl P Q sc mi me pc' ls' st' w R) : wpl P Q sc mi me pc ls st w R :=
  wpl_one hf (fun rt cc cl k => by rw [lstep_pl hi, h]) hq
theorem wpl_idiv {x y : Int32} (hf : fetch me.cd pc = some (.idiv, n)) (hy : ¬ y = 0) (hq : wpl P Q sc mi me (pc + 1) ls (.int (x / y) :: r) w R) : wpl P Q sc mi me pc ls (.int y :: .int x :: r) w R :=
  wpl_pl hf rfl (by simp only [pstep, qstep]; rw [if_neg hy]) hq
theorem wpl_irem {x y : Int32} (hf : fetch me.cd pc = some (.irem, n)) (hy : ¬ y = 0) (hq : wpl P Q sc mi me (pc + 1) ls (.int (x % y) :: r) w R) : wpl P Q sc mi me pc ls (.int y :: .int x :: r) w R :=
  wpl_pl hf rfl (by simp only [pstep, qstep]; rw [if_neg hy]) hq
theorem wpl_ldiv {x y : Int64} (hf : fetch me.cd pc = some (.ldiv, n)) (hy : ¬ y = 0) (hq : wpl P Q sc mi me (pc + 1) ls (.long (x / y) :: r) w R) : wpl P Q sc mi me pc ls (.long y :: .long x :: r) w R :=
  wpl_pl hf rfl (by simp only [pstep, qstep]; rw [if_neg hy]) hq
theorem wpl_tsw {x : Int32} {d lo hi : Int} {offs : Array Int} (hf : fetch me.cd pc = some (.tableswitch d lo hi offs, n)) (hd : 0 ≤ (pc : Int) + d) (ho : ∀ o ∈ offs.toList, 0 ≤ (pc : Int) + o) (hh : hi + 1 = lo + offs.toList.length)
    (h1 : TS x (fun o => wpl P Q sc mi me (jmp pc o) ls r w R) offs.toList lo) (h2 : (x.toInt < lo ∨ x.toInt > hi) → wpl P Q sc mi me (jmp pc d) ls r w R) : wpl P Q sc mi me pc ls (.int x :: r) w R := by
  obtain ⟨o, q1, q2⟩ := tsw_ok (ls := ls) (r := r) hd ho hh h1 h2
  exact wpl_pl hf rfl q2 q1
end L
/-! the links, by lists -/
def AllA {α : Type} (Q : Nat → α → Prop) : List (Nat × α) → Prop
  | [] => True
  | (a, b) :: r => Q a b ∧ AllA Q r
theorem asc_all {α : Type} {Q : Nat → α → Prop} {l : List (Nat × α)} (h : AllA Q l) : ∀ k v, asc l k = some v → Q k v := by
  induction l with
  | nil => intro k v e; cases e
  | cons x r ih =>
    intro k v e
    obtain ⟨a, b⟩ := x
    simp only [asc] at e
    cases q : Nat.beq a k
    · rw [q] at e; exact ih h.2 k v e
    · rw [q] at e; cases e
      obtain rfl := Nat.eq_of_beq_eq_true q
      exact h.1
def AllL (Q : Nat → Nat → Prop) : List (Nat × Nat) → Prop
  | [] => True
  | (a, b) :: r => Q a b ∧ AllL Q r
theorem lst_all {Q : Nat → Nat → Prop} {l : List (Nat × Nat)} (h : AllL Q l) : ∀ (j tt N : Nat), l[j]? = some (tt, N) → Q tt N := by
  induction l with
  | nil => intro j tt N e; simp at e
  | cons x r ih =>
    intro j tt N e
    obtain ⟨a, b⟩ := x
    cases j with
    | zero => simp at e; obtain ⟨rfl, rfl⟩ := e; exact h.1
    | succ j => simp at e; exact ih h.2 j tt N e
def dst1 (k : Nat) (fe : Fe) : List (Nat × Fe) → Bool
  | [] => true
  | (k', fe') :: r => (!(fe.1 == fe'.1)) && (decide (fe.2.2.1 < 3) || !(Nat.beq fe.2.2.1 fe'.2.2.1)) && dst1 k fe r
def dst : List (Nat × Fe) → Bool
  | [] => true
  | (k, fe) :: r => dst1 k fe r && dst r
theorem dst1_ok {k : Nat} {fe : Fe} {l : List (Nat × Fe)} (h : dst1 k fe l = true) : ∀ k' fe', asc l k' = some fe' → fe.1 ≠ fe'.1 ∧ (3 ≤ fe.2.2.1 → fe.2.2.1 ≠ fe'.2.2.1) := by
  induction l with
  | nil => intro k' fe' e; cases e
  | cons x r ih =>
    intro k' fe' e
    obtain ⟨a, b⟩ := x
    simp only [dst1, Bool.and_eq_true] at h
    obtain ⟨⟨h1, h2⟩, h3⟩ := h
    simp only [asc] at e
    cases q : Nat.beq a k'
    · rw [q] at e; exact ih h3 k' fe' e
    · rw [q] at e; cases e
      refine ⟨fun q2 => by rw [q2] at h1; simp at h1, fun q2 q3 => ?_⟩
      rw [q3] at h2 q2
      simp only [Bool.or_eq_true, decide_eq_true_eq, Bool.not_eq_true'] at h2
      rcases h2 with h2 | h2
      · omega
      · rw [Nat.beq_refl] at h2; cases h2
theorem dst_ok {l : List (Nat × Fe)} (h : dst l = true) : ∀ (k k' : Nat) (fe fe' : Fe), asc l k = some fe → asc l k' = some fe' → k ≠ k' → fe.1 ≠ fe'.1 ∧ (3 ≤ fe.2.2.1 → fe.2.2.1 ≠ fe'.2.2.1) := by
  induction l with
  | nil => intro k k' fe fe' e; cases e
  | cons x r ih =>
    intro k k' fe fe' e e' hne
    obtain ⟨a, b⟩ := x
    simp only [dst, Bool.and_eq_true] at h
    simp only [asc] at e e'
    cases q : Nat.beq a k <;> cases q' : Nat.beq a k' <;> rw [q] at e <;> rw [q'] at e'
    · exact ih h.2 k k' fe fe' e e' hne
    · cases e'
      obtain ⟨h1, h2⟩ := dst1_ok h.1 k fe e
      exact ⟨Ne.symm h1, fun z1 z2 => h2 (z2 ▸ z1) z2.symm⟩
    · cases e; exact dst1_ok h.1 k' fe' e'
    · exact absurd ((Nat.eq_of_beq_eq_true q).symm.trans (Nat.eq_of_beq_eq_true q')) hne
def chk (bytes : ByteArray) : Cd → Bool
  | [] => true
  | (pc, i, n) :: r => (match decode bytes pc with | .ok (i', n') => decide (i' = i ∧ n' = n) | .error _ => false) && (isSw i || Nat.beq n (ilen i)) && chk bytes r
theorem chk_ok {bytes : ByteArray} {cd : Cd} (h : chk bytes cd = true) : ∀ pc i n, fetch cd pc = some (i, n) → decode bytes pc = .ok (i, n) ∧ (isSw i = true ∨ n = ilen i) := by
  induction cd with
  | nil => intro pc i n e; cases e
  | cons x r ih =>
    intro pc i n e
    obtain ⟨a, i', n'⟩ := x
    simp only [chk, Bool.and_eq_true] at h
    obtain ⟨⟨h1, h2⟩, h3⟩ := h
    simp only [fetch] at e
    cases q : Nat.beq a pc
    · rw [q] at e; exact ih h3 pc i n e
    · rw [q] at e; cases e
      obtain rfl := Nat.eq_of_beq_eq_true q
      refine ⟨?_, ?_⟩
      · split at h1
        · rename_i i2 n2 hd
          obtain ⟨rfl, rfl⟩ := of_decide_eq_true h1
          exact hd
        · cases h1
      · simp only [Bool.or_eq_true] at h2
        exact h2.imp id Nat.eq_of_beq_eq_true
/-- the array that the law is handed -/
theorem script_of {s : State} {args : Array Value} {a : Addr} {cl : Cell} {t : Term} {k : Int32} (hf : Fit s) (A : Arr s s.heap a cl .int) (ev : t.eval args s none [] s = some (.ref a)) (hl : (Cond.le (Term.length t) (Term.int k)).value args s none s [] = some true) :
    (cl.slots.size < 2 ^ 31 ∧ (cl.slots.size : Int) ≤ k.toInt) ∧ SRep s s.heap a s.heap.size (some (cl.slots.size, fun i => match cl.slots[i]? with | some (.int x) => x | _ => 0)) := by
  obtain ⟨x, y, h1, h2, -⟩ := cmp_v (Or.inr (Or.inr hl))
  have hz : cl.slots.size < 2 ^ 31 := by
    have q : (Term.length t).eval args s none [] s = if cl.slots.size < 2 ^ 31 then some (.int cl.slots.size.toInt32) else none := by simp [Term.eval, ev, A.fin (Vm.Alike.refl _)]
    rw [h1] at q
    split at q
    · assumption
    · cases q
  have h1' := len_f ev (A.fin (Vm.Alike.refl _)) hz (args := args) (first := s) (o := none) (idx := [])
  have hle := gotT (Cond.le_ints h1' (Term.int_eval k)) hl
  rw [Int32.le_iff_toInt_le, len_toInt hz] at hle
  refine ⟨⟨hz, hle⟩, A.lt, cl, A, rfl, fun i hi => ?_⟩
  have e1 : cl.slots[i]? = some cl.slots[i] := Array.getElem?_eq_getElem hi
  have q := elem_fit hf A (j := i.toInt32) (idx_in hi hz)
  have e2 : i.toInt32.toNatClampNeg = i := by
    have := len_toInt (n := i) (by omega)
    simp only [Int32.toNatClampNeg, this]; rfl
  rw [e2] at q
  obtain ⟨v, hv, hfv⟩ := q
  obtain ⟨x, rfl⟩ := fit_I hfv (Or.inl rfl)
  rw [hv]
  dsimp only
  rw [hv]
end Jvm.LM
namespace Jvm.LM
theorem law_run {P : Cl} {Q : Lw} {sc : Sc} {as : List Value} (h : lalI P Q sc 0 as W0 fun v _ => v = 1) {me : Me} (hme : asc Q.ms 0 = some me) : ∃ f w', lexec P Q sc f 0 me 0 (lay as me.ml) [] W0 = some (some (.int 1), w') := by
  obtain ⟨f, v, w', h1, v', rfl, rfl⟩ := h
  refine ⟨f, w', ?_⟩
  simp only [lcall, hme] at h1
  split at h1
  · exact h1
  · cases h1
end Jvm.LM

namespace Jvm.LM
open Jvm.RoadKit
/-! numbers -/
theorem i32_add {x y : Int32} (h1 : -2147483648 ≤ x.toInt + y.toInt) (h2 : x.toInt + y.toInt < 2147483648) : (x + y).toInt = x.toInt + y.toInt := by
  have := c_iadd x y; have := rng32 (x + y); omega
theorem i32_sub {x y : Int32} (h1 : -2147483648 ≤ x.toInt - y.toInt) (h2 : x.toInt - y.toInt < 2147483648) : (x - y).toInt = x.toInt - y.toInt := by
  have := c_isub x y; have := rng32 (x - y); omega
theorem i32_mul {x y : Int32} (h1 : -2147483648 ≤ x.toInt * y.toInt) (h2 : x.toInt * y.toInt < 2147483648) : (x * y).toInt = x.toInt * y.toInt := by
  have := c_imul x y; have := rng32 (x * y); omega
theorem ix_int {i : Int32} (h : 0 ≤ i.toInt) : (ix i : Int) = i.toInt := by simp only [ix, Int32.toNatClampNeg]; omega
theorem ix_inj {i j : Int32} (hi : 0 ≤ i.toInt) (hj : 0 ≤ j.toInt) : ix i = ix j ↔ i = j := by
  have a := ix_int hi; have b := ix_int hj
  rw [← Int32.toInt_inj]; omega
theorem i32_lt {x y : Int32} : x < y ↔ x.toInt < y.toInt := Int32.lt_iff_toInt_lt
theorem i32_eq {x y : Int32} : x = y ↔ x.toInt = y.toInt := Int32.toInt_inj.symm
/-- a loop that counts up to N: from the next turn to this one -/
theorem loop_up {F : Int32 → Prop} (N : Int) (hN : N < 2147483647) (step : ∀ i, 0 ≤ i.toInt → i.toInt < N → (i + 1).toInt = i.toInt + 1 → F (i + 1) → F i) (last : ∀ i, i.toInt = N → F i) : ∀ i, 0 ≤ i.toInt → i.toInt ≤ N → F i := by
  have key : ∀ n : Nat, ∀ i : Int32, 0 ≤ i.toInt → i.toInt + n = N → F i := by
    intro n
    induction n with
    | zero => intro i h0 h1; exact last i (by omega)
    | succ n ih =>
      intro i h0 h1
      have e : (i + 1).toInt = i.toInt + 1 := i32_add (by simp; omega) (by simp; omega)
      exact step i h0 (by omega) e (ih (i + 1) (by omega) (by omega))
  intro i h0 h1
  exact key (N - i.toInt).toNat i h0 (by omega)
theorem cmpL_lt {x y : Int64} : Jvm.Free.XT.cmpL x y < 0 ↔ x < y := by
  unfold Jvm.Free.XT.cmpL; split
  · rename_i h; exact ⟨fun q => absurd q (by decide), fun q => by rw [Int64.lt_iff_toInt_lt] at h q; omega⟩
  · split
    · rename_i h; subst h; exact ⟨fun q => absurd q (by decide), fun q => by rw [Int64.lt_iff_toInt_lt] at q; omega⟩
    · rename_i h1 h2
      refine ⟨fun _ => ?_, fun _ => by decide⟩
      rw [Int64.lt_iff_toInt_lt] at h1 ⊢; rw [← Int64.toInt_inj] at h2; omega
theorem cmpL_gt {x y : Int64} : 0 < Jvm.Free.XT.cmpL x y ↔ y < x := by
  unfold Jvm.Free.XT.cmpL; split
  · rename_i h; exact ⟨fun _ => h, fun _ => by decide⟩
  · rename_i h; split
    · exact ⟨fun q => absurd q (by decide), fun q => absurd q h⟩
    · exact ⟨fun q => absurd q (by decide), fun q => absurd q h⟩
theorem cmpL_eq {x y : Int64} : Jvm.Free.XT.cmpL x y = 0 ↔ x = y := by
  unfold Jvm.Free.XT.cmpL; split
  · rename_i h; exact ⟨fun q => absurd q (by decide), fun q => by subst q; rw [Int64.lt_iff_toInt_lt] at h; omega⟩
  · split
    · rename_i h; exact ⟨fun _ => h, fun _ => rfl⟩
    · rename_i h1 h2; exact ⟨fun q => absurd q (by decide), fun q => absurd q h2⟩
end Jvm.LM

namespace Jvm.Pilot.@@N@@
open Jvm Jvm.ClassFile Sem Op Lib Jvm.Free Jvm.Stand Jvm.LawKit Jvm.RoadKit Jvm.LM Bundle Jvm.Pilot.@@N@@.Jvm.D
def cm0 : Me := ("<init>", "(I)V", 1, 0, [(0, .aload_n 0, 1), (1, .invokespecial 1, 3), (4, .aload_n 0, 1), (5, .bipush 8, 2), (7, .newarray .int, 2), (9, .putfield 7, 3), (12, .aload_n 0, 1), (13, .bipush 8, 2), (15, .newarray .int, 2), (17, .putfield 13, 3), (20, .aload_n 0, 1), (21, .bipush 8, 2), (23, .newarray .long, 2), (25, .putfield 16, 3), (28, .aload_n 0, 1), (29, .bipush 8, 2), (31, .newarray .long, 2), (33, .putfield 20, 3), (36, .aload_n 0, 1), (37, .bipush 16, 2), (39, .newarray .int, 2), (41, .putfield 23, 3), (44, .aload_n 0, 1), (45, .bipush 16, 2), (47, .newarray .int, 2), (49, .putfield 26, 3), (52, .aload_n 0, 1), (53, .bipush 16, 2), (55, .newarray .int, 2), (57, .putfield 29, 3), (60, .aload_n 0, 1), (61, .bipush 16, 2), (63, .newarray .int, 2), (65, .putfield 32, 3), (68, .aload_n 0, 1), (69, .bipush 16, 2), (71, .newarray .int, 2), (73, .putfield 35, 3), (76, .aload_n 0, 1), (77, .bipush 16, 2), (79, .newarray .int, 2), (81, .putfield 38, 3), (84, .aload_n 0, 1), (85, .bipush 16, 2), (87, .newarray .long, 2), (89, .putfield 41, 3), (92, .aload_n 0, 1), (93, .bipush 16, 2), (95, .newarray .long, 2), (97, .putfield 44, 3), (100, .aload_n 0, 1), (101, .bipush 16, 2), (103, .newarray .long, 2), (105, .putfield 47, 3), (108, .aload_n 0, 1), (109, .bipush 16, 2), (111, .newarray .long, 2), (113, .putfield 50, 3), (116, .aload_n 0, 1), (117, .bipush 16, 2), (119, .newarray .long, 2), (121, .putfield 53, 3), (124, .aload_n 0, 1), (125, .bipush 16, 2), (127, .newarray .int, 2), (129, .putfield 56, 3), (132, .aload_n 0, 1), (133, .bipush 16, 2), (135, .newarray .boolean, 2), (137, .putfield 59, 3), (140, .aload_n 0, 1), (141, .bipush 16, 2), (143, .newarray .long, 2), (145, .putfield 63, 3), (148, .aload_n 0, 1), (149, .bipush 16, 2), (151, .newarray .long, 2), (153, .putfield 66, 3), (156, .aload_n 0, 1), (157, .bipush 16, 2), (159, .newarray .long, 2), (161, .putfield 69, 3), (164, .aload_n 0, 1), (165, .bipush 16, 2), (167, .newarray .boolean, 2), (169, .putfield 72, 3), (172, .iload_n 1, 1), (173, .istore_n 2, 1), (174, .iload_n 2, 1), (175, .iconst 1, 1), (176, .if_icmp .ge 5, 3), (179, .iconst 1, 1), (180, .istore_n 2, 1), (181, .iload_n 2, 1), (182, .bipush 16, 2), (184, .if_icmp .le 6, 3), (187, .bipush 16, 2), (189, .istore_n 2, 1), (190, .aload_n 0, 1), (191, .iload_n 2, 1), (192, .putfield 75, 3), (195, .aload_n 0, 1), (196, .iconst 1, 1), (197, .putfield 79, 3), (200, .aload_n 0, 1), (201, .getfield 7, 3), (204, .iconst 0, 1), (205, .iconst (-1), 1), (206, .iastore, 1), (207, .aload_n 0, 1), (208, .getfield 13, 3), (211, .iconst 0, 1), (212, .iconst 0, 1), (213, .iastore, 1), (214, .aload_n 0, 1), (215, .iconst 0, 1), (216, .putfield 82, 3), (219, .aload_n 0, 1), (220, .iconst 0, 1), (221, .putfield 85, 3), (224, .aload_n 0, 1), (225, .iconst 0, 1), (226, .putfield 88, 3), (229, .return_, 1)], 3, 1, 12)
def cm2 : Me := ("createCurrency", "(II)I", 2, 1, [(0, .iload_n 1, 1), (1, .ifCond .lt 11, 3), (4, .iload_n 1, 1), (5, .aload_n 0, 1), (6, .getfield 79, 3), (9, .if_icmp .lt 6, 3), (12, .bipush (-3), 2), (14, .ireturn, 1), (15, .aload_n 0, 1), (16, .iload_n 2, 1), (17, .invokevirtual 91, 3), (20, .ifCond .ne 6, 3), (23, .bipush (-2), 2), (25, .ireturn, 1), (26, .aload_n 0, 1), (27, .getfield 79, 3), (30, .bipush 8, 2), (32, .if_icmp .lt 6, 3), (35, .bipush (-5), 2), (37, .ireturn, 1), (38, .aload_n 0, 1), (39, .getfield 79, 3), (42, .istore_n 3, 1), (43, .aload_n 0, 1), (44, .getfield 7, 3), (47, .iload_n 3, 1), (48, .iload_n 1, 1), (49, .iastore, 1), (50, .aload_n 0, 1), (51, .getfield 13, 3), (54, .iload_n 3, 1), (55, .iload_n 2, 1), (56, .iastore, 1), (57, .aload_n 0, 1), (58, .aload_n 0, 1), (59, .getfield 79, 3), (62, .iconst 1, 1), (63, .iadd, 1), (64, .putfield 79, 3), (67, .iload_n 3, 1), (68, .ireturn, 1)], 4, 1, 13)
def cm3 : Me := ("addClient", "(II)I", 2, 1, [(0, .iload_n 1, 1), (1, .ifCond .lt 11, 3), (4, .iload_n 1, 1), (5, .aload_n 0, 1), (6, .getfield 79, 3), (9, .if_icmp .lt 6, 3), (12, .bipush (-3), 2), (14, .ireturn, 1), (15, .aload_n 0, 1), (16, .iload_n 2, 1), (17, .invokevirtual 91, 3), (20, .ifCond .ne 6, 3), (23, .bipush (-2), 2), (25, .ireturn, 1), (26, .aload_n 0, 1), (27, .getfield 82, 3), (30, .bipush 16, 2), (32, .if_icmp .lt 6, 3), (35, .bipush (-5), 2), (37, .ireturn, 1), (38, .aload_n 0, 1), (39, .invokevirtual 95, 3), (42, .aload_n 0, 1), (43, .getfield 82, 3), (46, .istore_n 3, 1), (47, .aload_n 0, 1), (48, .getfield 23, 3), (51, .iload_n 3, 1), (52, .iconst 1, 1), (53, .iastore, 1), (54, .aload_n 0, 1), (55, .getfield 26, 3), (58, .iload_n 3, 1), (59, .iload_n 1, 1), (60, .iastore, 1), (61, .aload_n 0, 1), (62, .getfield 29, 3), (65, .iload_n 3, 1), (66, .iload_n 2, 1), (67, .iastore, 1), (68, .aload_n 0, 1), (69, .getfield 32, 3), (72, .iload_n 3, 1), (73, .iconst (-1), 1), (74, .iastore, 1), (75, .aload_n 0, 1), (76, .getfield 41, 3), (79, .iload_n 3, 1), (80, .lconst 0, 1), (81, .lastore, 1), (82, .aload_n 0, 1), (83, .getfield 44, 3), (86, .iload_n 3, 1), (87, .lconst 0, 1), (88, .lastore, 1), (89, .aload_n 0, 1), (90, .getfield 47, 3), (93, .iload_n 3, 1), (94, .lconst 0, 1), (95, .lastore, 1), (96, .aload_n 0, 1), (97, .getfield 50, 3), (100, .iload_n 3, 1), (101, .lconst 0, 1), (102, .lastore, 1), (103, .aload_n 0, 1), (104, .getfield 53, 3), (107, .iload_n 3, 1), (108, .lconst 0, 1), (109, .lastore, 1), (110, .aload_n 0, 1), (111, .getfield 35, 3), (114, .iload_n 3, 1), (115, .iconst 0, 1), (116, .iastore, 1), (117, .aload_n 0, 1), (118, .getfield 38, 3), (121, .iload_n 3, 1), (122, .iconst 0, 1), (123, .iastore, 1), (124, .aload_n 0, 1), (125, .aload_n 0, 1), (126, .getfield 82, 3), (129, .iconst 1, 1), (130, .iadd, 1), (131, .putfield 82, 3), (134, .aload_n 0, 1), (135, .invokevirtual 98, 3), (138, .iload_n 3, 1), (139, .ireturn, 1)], 4, 4, 57)
def cm9 : Me := ("dispatch", "(I)I", 1, 1, [(0, .iload_n 1, 1), (1, .iconst 1, 1), (2, .if_icmp .lt 11, 3), (5, .iload_n 1, 1), (6, .aload_n 0, 1), (7, .getfield 75, 3), (10, .if_icmp .le 6, 3), (13, .bipush (-2), 2), (15, .ireturn, 1), (16, .aload_n 0, 1), (17, .invokevirtual 107, 3), (20, .istore_n 2, 1), (21, .iload_n 2, 1), (22, .ifCond .ge 5, 3), (25, .iconst (-1), 1), (26, .ireturn, 1), (27, .aload_n 0, 1), (28, .getfield 44, 3), (31, .iload_n 2, 1), (32, .aload_n 0, 1), (33, .getfield 44, 3), (36, .iload_n 2, 1), (37, .laload, 1), (38, .aload_n 0, 1), (39, .getfield 47, 3), (42, .iload_n 2, 1), (43, .laload, 1), (44, .ladd, 1), (45, .lastore, 1), (46, .aload_n 0, 1), (47, .getfield 35, 3), (50, .iload_n 2, 1), (51, .aload_n 0, 1), (52, .getfield 35, 3), (55, .iload_n 2, 1), (56, .iaload, 1), (57, .iconst 1, 1), (58, .iadd, 1), (59, .iastore, 1), (60, .aload_n 0, 1), (61, .getfield 38, 3), (64, .iload_n 2, 1), (65, .aload_n 0, 1), (66, .getfield 38, 3), (69, .iload_n 2, 1), (70, .iaload, 1), (71, .iconst 1, 1), (72, .iadd, 1), (73, .iastore, 1), (74, .aload_n 0, 1), (75, .aload_n 0, 1), (76, .getfield 88, 3), (79, .iconst 1, 1), (80, .iadd, 1), (81, .putfield 88, 3), (84, .aload_n 0, 1), (85, .getfield 41, 3), (88, .iload_n 2, 1), (89, .laload, 1), (90, .lstore_n 3, 1), (91, .aload_n 0, 1), (92, .invokevirtual 111, 3), (95, .aload_n 0, 1), (96, .getfield 41, 3), (99, .iload_n 2, 1), (100, .aload_n 0, 1), (101, .getfield 66, 3), (104, .iload_n 2, 1), (105, .laload, 1), (106, .aload_n 0, 1), (107, .getfield 75, 3), (110, .iload_n 1, 1), (111, .isub, 1), (112, .i2l, 1), (113, .lmul, 1), (114, .iload_n 1, 1), (115, .i2l, 1), (116, .ldiv, 1), (117, .lastore, 1), (118, .lload_n 3, 1), (119, .lconst 0, 1), (120, .lcmp, 1), (121, .ifCond .ne 14, 3), (124, .aload_n 0, 1), (125, .getfield 41, 3), (128, .iload_n 2, 1), (129, .laload, 1), (130, .lconst 0, 1), (131, .lcmp, 1), (132, .ifCond .eq 11, 3), (135, .aload_n 0, 1), (136, .invokevirtual 95, 3), (139, .aload_n 0, 1), (140, .invokevirtual 98, 3), (143, .iload_n 2, 1), (144, .ireturn, 1)], 5, 4, 57)
def cm10 : Me := ("getClient", "(II)I", 2, 1, [(0, .iload_n 1, 1), (1, .ifCond .lt 17, 3), (4, .iload_n 1, 1), (5, .aload_n 0, 1), (6, .getfield 82, 3), (9, .if_icmp .ge 9, 3), (12, .iload_n 1, 1), (13, .bipush 16, 2), (15, .if_icmp .lt 5, 3), (18, .iconst 0, 1), (19, .ireturn, 1), (20, .iload_n 2, 1), (21, .ifCond .lt 9, 3), (24, .iload_n 2, 1), (25, .bipush 11, 2), (27, .if_icmp .le 5, 3), (30, .iconst 0, 1), (31, .ireturn, 1), (32, .iload_n 2, 1), (33, .tableswitch 139 0 10 #[59, 66, 73, 80, 87, 93, 101, 109, 116, 123, 131], 59), (92, .aload_n 0, 1), (93, .getfield 23, 3), (96, .iload_n 1, 1), (97, .iaload, 1), (98, .ireturn, 1), (99, .aload_n 0, 1), (100, .getfield 26, 3), (103, .iload_n 1, 1), (104, .iaload, 1), (105, .ireturn, 1), (106, .aload_n 0, 1), (107, .getfield 29, 3), (110, .iload_n 1, 1), (111, .iaload, 1), (112, .ireturn, 1), (113, .aload_n 0, 1), (114, .getfield 32, 3), (117, .iload_n 1, 1), (118, .iaload, 1), (119, .ireturn, 1), (120, .aload_n 0, 1), (121, .iload_n 1, 1), (122, .invokevirtual 114, 3), (125, .ireturn, 1), (126, .aload_n 0, 1), (127, .getfield 47, 3), (130, .iload_n 1, 1), (131, .laload, 1), (132, .l2i, 1), (133, .ireturn, 1), (134, .aload_n 0, 1), (135, .getfield 44, 3), (138, .iload_n 1, 1), (139, .laload, 1), (140, .l2i, 1), (141, .ireturn, 1), (142, .aload_n 0, 1), (143, .getfield 35, 3), (146, .iload_n 1, 1), (147, .iaload, 1), (148, .ireturn, 1), (149, .aload_n 0, 1), (150, .getfield 38, 3), (153, .iload_n 1, 1), (154, .iaload, 1), (155, .ireturn, 1), (156, .aload_n 0, 1), (157, .getfield 41, 3), (160, .iload_n 1, 1), (161, .laload, 1), (162, .l2i, 1), (163, .ireturn, 1), (164, .aload_n 0, 1), (165, .getfield 50, 3), (168, .iload_n 1, 1), (169, .laload, 1), (170, .l2i, 1), (171, .ireturn, 1), (172, .aload_n 0, 1), (173, .getfield 53, 3), (176, .iload_n 1, 1), (177, .laload, 1), (178, .l2i, 1), (179, .ireturn, 1)], 3, 4, 55)
def cm11 : Me := ("getCurrency", "(II)I", 2, 1, [(0, .iload_n 1, 1), (1, .ifCond .lt 17, 3), (4, .iload_n 1, 1), (5, .aload_n 0, 1), (6, .getfield 79, 3), (9, .if_icmp .ge 9, 3), (12, .iload_n 1, 1), (13, .bipush 8, 2), (15, .if_icmp .lt 5, 3), (18, .iconst 0, 1), (19, .ireturn, 1), (20, .iload_n 2, 1), (21, .ifCond .ne 18, 3), (24, .iload_n 1, 1), (25, .ifCond .ne 7, 3), (28, .iconst (-1), 1), (29, .goto 9, 3), (32, .aload_n 0, 1), (33, .getfield 7, 3), (36, .iload_n 1, 1), (37, .iaload, 1), (38, .ireturn, 1), (39, .iload_n 2, 1), (40, .iconst 1, 1), (41, .if_icmp .ne 18, 3), (44, .iload_n 1, 1), (45, .ifCond .ne 7, 3), (48, .iconst 0, 1), (49, .goto 9, 3), (52, .aload_n 0, 1), (53, .getfield 13, 3), (56, .iload_n 1, 1), (57, .iaload, 1), (58, .ireturn, 1), (59, .iload_n 2, 1), (60, .iconst 2, 1), (61, .if_icmp .ne 15, 3), (64, .aload_n 0, 1), (65, .invokevirtual 111, 3), (68, .aload_n 0, 1), (69, .getfield 16, 3), (72, .iload_n 1, 1), (73, .laload, 1), (74, .l2i, 1), (75, .ireturn, 1), (76, .iload_n 2, 1), (77, .iconst 3, 1), (78, .if_icmp .ne 15, 3), (81, .aload_n 0, 1), (82, .invokevirtual 111, 3), (85, .aload_n 0, 1), (86, .getfield 20, 3), (89, .iload_n 1, 1), (90, .laload, 1), (91, .l2i, 1), (92, .ireturn, 1), (93, .iconst 0, 1), (94, .ireturn, 1)], 3, 3, 42)
def cm12 : Me := ("getCount", "(I)I", 1, 1, [(0, .iload_n 1, 1), (1, .tableswitch 60 0 4 #[35, 40, 45, 50, 55], 35), (36, .aload_n 0, 1), (37, .getfield 85, 3), (40, .ireturn, 1), (41, .aload_n 0, 1), (42, .getfield 79, 3), (45, .ireturn, 1), (46, .aload_n 0, 1), (47, .getfield 82, 3), (50, .ireturn, 1), (51, .aload_n 0, 1), (52, .getfield 75, 3), (55, .ireturn, 1), (56, .aload_n 0, 1), (57, .getfield 88, 3), (60, .ireturn, 1), (61, .iconst 0, 1), (62, .ireturn, 1)], 2, 0, 0)
def cm13 : Me := ("validAmount", "(I)Z", 1, 2, [(0, .iload_n 1, 1), (1, .iconst 1, 1), (2, .if_icmp .lt 14, 3), (5, .iload_n 1, 1), (6, .sipush 1000, 3), (9, .if_icmp .gt 7, 3), (12, .iconst 1, 1), (13, .goto 4, 3), (16, .iconst 0, 1), (17, .ireturn, 1)], 2, 0, 0)
def cm16 : Me := ("pickLeast", "()I", 0, 1, [(0, .iconst (-1), 1), (1, .istore_n 1, 1), (2, .iconst 0, 1), (3, .istore_n 2, 1), (4, .iload_n 2, 1), (5, .bipush 16, 2), (7, .if_icmp .ge 49, 3), (10, .iload_n 2, 1), (11, .aload_n 0, 1), (12, .getfield 82, 3), (15, .if_icmp .ge 35, 3), (18, .aload_n 0, 1), (19, .getfield 23, 3), (22, .iload_n 2, 1), (23, .iaload, 1), (24, .iconst 1, 1), (25, .if_icmp .ne 25, 3), (28, .iload_n 1, 1), (29, .ifCond .lt 19, 3), (32, .aload_n 0, 1), (33, .getfield 44, 3), (36, .iload_n 2, 1), (37, .laload, 1), (38, .aload_n 0, 1), (39, .getfield 44, 3), (42, .iload_n 1, 1), (43, .laload, 1), (44, .lcmp, 1), (45, .ifCond .ge 5, 3), (48, .iload_n 2, 1), (49, .istore_n 1, 1), (50, .iinc 2 1, 3), (53, .goto (-49), 3), (56, .iload_n 1, 1), (57, .ireturn, 1)], 3, 0, 0)
def cm17 : Me := ("ticketsOf", "(I)I", 1, 1, [(0, .aload_n 0, 1), (1, .getfield 23, 3), (4, .iload_n 1, 1), (5, .iaload, 1), (6, .iconst 1, 1), (7, .if_icmp .eq 5, 3), (10, .iconst 0, 1), (11, .ireturn, 1), (12, .aload_n 0, 1), (13, .invokevirtual 111, 3), (16, .aload_n 0, 1), (17, .getfield 69, 3), (20, .iload_n 1, 1), (21, .laload, 1), (22, .l2i, 1), (23, .ireturn, 1)], 2, 3, 42)
def cm18 : Me := ("snapshot", "()V", 0, 0, [(0, .iconst 0, 1), (1, .istore_n 1, 1), (2, .iload_n 1, 1), (3, .bipush 16, 2), (5, .if_icmp .ge 38, 3), (8, .aload_n 0, 1), (9, .getfield 72, 3), (12, .iload_n 1, 1), (13, .iload_n 1, 1), (14, .aload_n 0, 1), (15, .getfield 82, 3), (18, .if_icmp .ge 17, 3), (21, .aload_n 0, 1), (22, .getfield 23, 3), (25, .iload_n 1, 1), (26, .iaload, 1), (27, .iconst 1, 1), (28, .if_icmp .ne 7, 3), (31, .iconst 1, 1), (32, .goto 4, 3), (35, .iconst 0, 1), (36, .bastore, 1), (37, .iinc 1 1, 3), (40, .goto (-38), 3), (43, .return_, 1)], 2, 0, 0)
def cm19 : Me := ("refresh", "()V", 0, 0, [(0, .aload_n 0, 1), (1, .invokevirtual 118, 3), (4, .aload_n 0, 1), (5, .invokevirtual 121, 3), (8, .aload_n 0, 1), (9, .invokevirtual 124, 3), (12, .aload_n 0, 1), (13, .invokevirtual 127, 3), (16, .aload_n 0, 1), (17, .invokevirtual 130, 3), (20, .return_, 1)], 1, 2, 30)
def cm20 : Me := ("findHolder", "(I)I", 1, 1, [(0, .iload_n 1, 1), (1, .istore_n 2, 1), (2, .iconst 0, 1), (3, .istore_n 3, 1), (4, .iload_n 3, 1), (5, .bipush 16, 2), (7, .if_icmp .ge 57, 3), (10, .aload_n 0, 1), (11, .getfield 23, 3), (14, .iload_n 2, 1), (15, .iaload, 1), (16, .iconst 2, 1), (17, .if_icmp .eq 6, 3), (20, .goto 44, 3), (23, .aload_n 0, 1), (24, .getfield 32, 3), (27, .iload_n 2, 1), (28, .iaload, 1), (29, .istore 4, 2), (31, .iload 4, 2), (33, .ifCond .lt 31, 3), (36, .iload 4, 2), (38, .aload_n 0, 1), (39, .getfield 82, 3), (42, .if_icmp .ge 22, 3), (45, .iload 4, 2), (47, .bipush 16, 2), (49, .if_icmp .lt 6, 3), (52, .goto 12, 3), (55, .iload 4, 2), (57, .istore_n 2, 1), (58, .iinc 3 1, 3), (61, .goto (-57), 3), (64, .iload_n 2, 1), (65, .ireturn, 1)], 5, 0, 0)
def cm21 : Me := ("computeHolders", "()V", 0, 0, [(0, .iconst 0, 1), (1, .istore_n 1, 1), (2, .iload_n 1, 1), (3, .bipush 16, 2), (5, .if_icmp .ge 78, 3), (8, .iload_n 1, 1), (9, .aload_n 0, 1), (10, .getfield 82, 3), (13, .if_icmp .ge 50, 3), (16, .aload_n 0, 1), (17, .iload_n 1, 1), (18, .invokevirtual 133, 3), (21, .istore_n 2, 1), (22, .aload_n 0, 1), (23, .getfield 56, 3), (26, .iload_n 1, 1), (27, .iload_n 2, 1), (28, .iastore, 1), (29, .aload_n 0, 1), (30, .getfield 59, 3), (33, .iload_n 1, 1), (34, .aload_n 0, 1), (35, .getfield 23, 3), (38, .iload_n 1, 1), (39, .iaload, 1), (40, .iconst 3, 1), (41, .if_icmp .eq 17, 3), (44, .aload_n 0, 1), (45, .getfield 23, 3), (48, .iload_n 2, 1), (49, .iaload, 1), (50, .iconst 1, 1), (51, .if_icmp .ne 7, 3), (54, .iconst 1, 1), (55, .goto 4, 3), (58, .iconst 0, 1), (59, .bastore, 1), (60, .goto 17, 3), (63, .aload_n 0, 1), (64, .getfield 56, 3), (67, .iload_n 1, 1), (68, .iload_n 1, 1), (69, .iastore, 1), (70, .aload_n 0, 1), (71, .getfield 59, 3), (74, .iload_n 1, 1), (75, .iconst 0, 1), (76, .bastore, 1), (77, .iinc 1 1, 3), (80, .goto (-78), 3), (83, .return_, 1)], 3, 1, 16)
def cm22 : Me := ("computeIssued", "()V", 0, 0, [(0, .bipush 7, 2), (2, .istore_n 1, 1), (3, .iload_n 1, 1), (4, .ifCond .lt 145, 3), (7, .iload_n 1, 1), (8, .aload_n 0, 1), (9, .getfield 79, 3), (12, .if_icmp .lt 13, 3), (15, .aload_n 0, 1), (16, .getfield 16, 3), (19, .iload_n 1, 1), (20, .lconst 0, 1), (21, .lastore, 1), (22, .goto 121, 3), (25, .lconst 0, 1), (26, .lstore_n 2, 1), (27, .iconst 0, 1), (28, .istore 4, 2), (30, .iload 4, 2), (32, .bipush 16, 2), (34, .if_icmp .ge 41, 3), (37, .aload_n 0, 1), (38, .getfield 59, 3), (41, .iload 4, 2), (43, .baload, 1), (44, .ifCond .eq 25, 3), (47, .aload_n 0, 1), (48, .getfield 26, 3), (51, .iload 4, 2), (53, .iaload, 1), (54, .iload_n 1, 1), (55, .if_icmp .ne 14, 3), (58, .lload_n 2, 1), (59, .aload_n 0, 1), (60, .getfield 29, 3), (63, .iload 4, 2), (65, .iaload, 1), (66, .i2l, 1), (67, .ladd, 1), (68, .lstore_n 2, 1), (69, .iinc 4 1, 3), (72, .goto (-42), 3), (75, .iload_n 1, 1), (76, .iconst 1, 1), (77, .iadd, 1), (78, .istore 4, 2), (80, .iload 4, 2), (82, .bipush 8, 2), (84, .if_icmp .ge 52, 3), (87, .iload 4, 2), (89, .aload_n 0, 1), (90, .getfield 79, 3), (93, .if_icmp .ge 37, 3), (96, .aload_n 0, 1), (97, .getfield 7, 3), (100, .iload 4, 2), (102, .iaload, 1), (103, .iload_n 1, 1), (104, .if_icmp .ne 26, 3), (107, .aload_n 0, 1), (108, .getfield 16, 3), (111, .iload 4, 2), (113, .laload, 1), (114, .lconst 0, 1), (115, .lcmp, 1), (116, .ifCond .le 14, 3), (119, .lload_n 2, 1), (120, .aload_n 0, 1), (121, .getfield 13, 3), (124, .iload 4, 2), (126, .iaload, 1), (127, .i2l, 1), (128, .ladd, 1), (129, .lstore_n 2, 1), (130, .iinc 4 1, 3), (133, .goto (-53), 3), (136, .aload_n 0, 1), (137, .getfield 16, 3), (140, .iload_n 1, 1), (141, .lload_n 2, 1), (142, .lastore, 1), (143, .iinc 1 (-1), 3), (146, .goto (-143), 3), (149, .return_, 1)], 5, 0, 0)
def cm23 : Me := ("computeWorth", "()V", 0, 0, [(0, .aload_n 0, 1), (1, .getfield 20, 3), (4, .iconst 0, 1), (5, .lconst 0, 1), (6, .lastore, 1), (7, .iconst 1, 1), (8, .istore_n 1, 1), (9, .iload_n 1, 1), (10, .bipush 8, 2), (12, .if_icmp .ge 122, 3), (15, .iload_n 1, 1), (16, .aload_n 0, 1), (17, .getfield 79, 3), (20, .if_icmp .ge 14, 3), (23, .aload_n 0, 1), (24, .getfield 16, 3), (27, .iload_n 1, 1), (28, .laload, 1), (29, .lconst 0, 1), (30, .lcmp, 1), (31, .ifCond .ne 13, 3), (34, .aload_n 0, 1), (35, .getfield 20, 3), (38, .iload_n 1, 1), (39, .lconst 0, 1), (40, .lastore, 1), (41, .goto 87, 3), (44, .aload_n 0, 1), (45, .getfield 7, 3), (48, .iload_n 1, 1), (49, .iaload, 1), (50, .istore_n 2, 1), (51, .iload_n 2, 1), (52, .ifCond .ne 19, 3), (55, .aload_n 0, 1), (56, .getfield 20, 3), (59, .iload_n 1, 1), (60, .aload_n 0, 1), (61, .getfield 13, 3), (64, .iload_n 1, 1), (65, .iaload, 1), (66, .i2l, 1), (67, .lastore, 1), (68, .goto 60, 3), (71, .iload_n 2, 1), (72, .ifCond .le 49, 3), (75, .iload_n 2, 1), (76, .iload_n 1, 1), (77, .if_icmp .ge 44, 3), (80, .aload_n 0, 1), (81, .getfield 16, 3), (84, .iload_n 2, 1), (85, .laload, 1), (86, .lconst 0, 1), (87, .lcmp, 1), (88, .ifCond .le 33, 3), (91, .aload_n 0, 1), (92, .getfield 20, 3), (95, .iload_n 1, 1), (96, .aload_n 0, 1), (97, .getfield 13, 3), (100, .iload_n 1, 1), (101, .iaload, 1), (102, .i2l, 1), (103, .aload_n 0, 1), (104, .getfield 20, 3), (107, .iload_n 2, 1), (108, .laload, 1), (109, .lmul, 1), (110, .aload_n 0, 1), (111, .getfield 16, 3), (114, .iload_n 2, 1), (115, .laload, 1), (116, .ldiv, 1), (117, .lastore, 1), (118, .goto 10, 3), (121, .aload_n 0, 1), (122, .getfield 20, 3), (125, .iload_n 1, 1), (126, .lconst 0, 1), (127, .lastore, 1), (128, .iinc 1 1, 3), (131, .goto (-122), 3), (134, .return_, 1)], 3, 0, 0)
def cm24 : Me := ("computeValues", "()V", 0, 0, [(0, .iconst 0, 1), (1, .istore_n 1, 1), (2, .iload_n 1, 1), (3, .bipush 16, 2), (5, .if_icmp .ge 103, 3), (8, .aload_n 0, 1), (9, .getfield 63, 3), (12, .iload_n 1, 1), (13, .lconst 0, 1), (14, .lastore, 1), (15, .aload_n 0, 1), (16, .getfield 59, 3), (19, .iload_n 1, 1), (20, .baload, 1), (21, .ifCond .ne 6, 3), (24, .goto 78, 3), (27, .aload_n 0, 1), (28, .getfield 26, 3), (31, .iload_n 1, 1), (32, .iaload, 1), (33, .istore_n 2, 1), (34, .iload_n 2, 1), (35, .ifCond .ne 19, 3), (38, .aload_n 0, 1), (39, .getfield 63, 3), (42, .iload_n 1, 1), (43, .aload_n 0, 1), (44, .getfield 29, 3), (47, .iload_n 1, 1), (48, .iaload, 1), (49, .i2l, 1), (50, .lastore, 1), (51, .goto 51, 3), (54, .iload_n 2, 1), (55, .ifCond .le 47, 3), (58, .iload_n 2, 1), (59, .bipush 8, 2), (61, .if_icmp .ge 41, 3), (64, .aload_n 0, 1), (65, .getfield 16, 3), (68, .iload_n 2, 1), (69, .laload, 1), (70, .lconst 0, 1), (71, .lcmp, 1), (72, .ifCond .le 30, 3), (75, .aload_n 0, 1), (76, .getfield 63, 3), (79, .iload_n 1, 1), (80, .aload_n 0, 1), (81, .getfield 29, 3), (84, .iload_n 1, 1), (85, .iaload, 1), (86, .i2l, 1), (87, .aload_n 0, 1), (88, .getfield 20, 3), (91, .iload_n 2, 1), (92, .laload, 1), (93, .lmul, 1), (94, .aload_n 0, 1), (95, .getfield 16, 3), (98, .iload_n 2, 1), (99, .laload, 1), (100, .ldiv, 1), (101, .lastore, 1), (102, .iinc 1 1, 3), (105, .goto (-103), 3), (108, .return_, 1)], 3, 0, 0)
def cm25 : Me := ("computeTickets", "()V", 0, 0, [(0, .iconst 0, 1), (1, .istore_n 1, 1), (2, .iload_n 1, 1), (3, .bipush 16, 2), (5, .if_icmp .ge 16, 3), (8, .aload_n 0, 1), (9, .getfield 66, 3), (12, .iload_n 1, 1), (13, .lconst 0, 1), (14, .lastore, 1), (15, .iinc 1 1, 3), (18, .goto (-16), 3), (21, .iconst 0, 1), (22, .istore_n 1, 1), (23, .iload_n 1, 1), (24, .bipush 16, 2), (26, .if_icmp .ge 54, 3), (29, .aload_n 0, 1), (30, .getfield 56, 3), (33, .iload_n 1, 1), (34, .iaload, 1), (35, .istore_n 2, 1), (36, .aload_n 0, 1), (37, .getfield 59, 3), (40, .iload_n 1, 1), (41, .baload, 1), (42, .ifCond .eq 32, 3), (45, .iload_n 2, 1), (46, .ifCond .lt 28, 3), (49, .iload_n 2, 1), (50, .bipush 16, 2), (52, .if_icmp .ge 22, 3), (55, .aload_n 0, 1), (56, .getfield 66, 3), (59, .iload_n 2, 1), (60, .aload_n 0, 1), (61, .getfield 66, 3), (64, .iload_n 2, 1), (65, .laload, 1), (66, .aload_n 0, 1), (67, .getfield 63, 3), (70, .iload_n 1, 1), (71, .laload, 1), (72, .ladd, 1), (73, .lastore, 1), (74, .iinc 1 1, 3), (77, .goto (-54), 3), (80, .iconst 0, 1), (81, .istore_n 1, 1), (82, .iload_n 1, 1), (83, .bipush 16, 2), (85, .if_icmp .ge 68, 3), (88, .iload_n 1, 1), (89, .aload_n 0, 1), (90, .getfield 82, 3), (93, .if_icmp .ge 47, 3), (96, .aload_n 0, 1), (97, .getfield 23, 3), (100, .iload_n 1, 1), (101, .iaload, 1), (102, .iconst 1, 1), (103, .if_icmp .ne 37, 3), (106, .aload_n 0, 1), (107, .getfield 66, 3), (110, .iload_n 1, 1), (111, .laload, 1), (112, .aload_n 0, 1), (113, .getfield 41, 3), (116, .iload_n 1, 1), (117, .laload, 1), (118, .ladd, 1), (119, .lstore_n 2, 1), (120, .aload_n 0, 1), (121, .getfield 69, 3), (124, .iload_n 1, 1), (125, .lload_n 2, 1), (126, .lconst 0, 1), (127, .lcmp, 1), (128, .ifCond .ne 7, 3), (131, .lconst 1, 1), (132, .goto 4, 3), (135, .lload_n 2, 1), (136, .lastore, 1), (137, .goto 10, 3), (140, .aload_n 0, 1), (141, .getfield 69, 3), (144, .iload_n 1, 1), (145, .lconst 0, 1), (146, .lastore, 1), (147, .iinc 1 1, 3), (150, .goto (-68), 3), (153, .return_, 1)], 4, 0, 0)
def cm26 : Me := ("leastPassOfP", "()J", 0, 3, [(0, .lconst 0, 1), (1, .lstore_n 1, 1), (2, .iconst 0, 1), (3, .istore_n 3, 1), (4, .iconst 0, 1), (5, .istore 4, 2), (7, .iload 4, 2), (9, .bipush 16, 2), (11, .if_icmp .ge 45, 3), (14, .aload_n 0, 1), (15, .getfield 72, 3), (18, .iload 4, 2), (20, .baload, 1), (21, .ifCond .eq 29, 3), (24, .iload_n 3, 1), (25, .ifCond .eq 15, 3), (28, .aload_n 0, 1), (29, .getfield 44, 3), (32, .iload 4, 2), (34, .laload, 1), (35, .lload_n 1, 1), (36, .lcmp, 1), (37, .ifCond .ge 13, 3), (40, .aload_n 0, 1), (41, .getfield 44, 3), (44, .iload 4, 2), (46, .laload, 1), (47, .lstore_n 1, 1), (48, .iconst 1, 1), (49, .istore_n 3, 1), (50, .iinc 4 1, 3), (53, .goto (-46), 3), (56, .lload_n 1, 1), (57, .lreturn, 1)], 5, 0, 0)
def cm27 : Me := ("epochStart", "()V", 0, 0, [(0, .aload_n 0, 1), (1, .invokevirtual 111, 3), (4, .aload_n 0, 1), (5, .invokevirtual 136, 3), (8, .lstore_n 1, 1), (9, .iconst 0, 1), (10, .istore_n 3, 1), (11, .iload_n 3, 1), (12, .bipush 16, 2), (14, .if_icmp .ge 23, 3), (17, .iload_n 3, 1), (18, .aload_n 0, 1), (19, .getfield 82, 3), (22, .if_icmp .ge 9, 3), (25, .aload_n 0, 1), (26, .iload_n 3, 1), (27, .lload_n 1, 1), (28, .invokevirtual 140, 3), (31, .iinc 3 1, 3), (34, .goto (-23), 3), (37, .iconst 0, 1), (38, .istore_n 3, 1), (39, .iload_n 3, 1), (40, .bipush 16, 2), (42, .if_icmp .ge 16, 3), (45, .aload_n 0, 1), (46, .getfield 35, 3), (49, .iload_n 3, 1), (50, .iconst 0, 1), (51, .iastore, 1), (52, .iinc 3 1, 3), (55, .goto (-16), 3), (58, .aload_n 0, 1), (59, .aload_n 0, 1), (60, .getfield 85, 3), (63, .iconst 1, 1), (64, .iadd, 1), (65, .putfield 85, 3), (68, .return_, 1)], 4, 3, 42)
def cm28 : Me := ("rescale", "(IJ)V", 2, 0, [(0, .aload_n 0, 1), (1, .getfield 23, 3), (4, .iload_n 1, 1), (5, .iaload, 1), (6, .iconst 1, 1), (7, .if_icmp .ne 7, 3), (10, .iconst 1, 1), (11, .goto 4, 3), (14, .iconst 0, 1), (15, .istore 4, 2), (17, .lconst 0, 1), (18, .lstore 5, 2), (20, .iload 4, 2), (22, .ifCond .eq 26, 3), (25, .aload_n 0, 1), (26, .getfield 69, 3), (29, .iload_n 1, 1), (30, .laload, 1), (31, .lconst 0, 1), (32, .lcmp, 1), (33, .ifCond .le 15, 3), (36, .ldc2_w 144, 3), (39, .aload_n 0, 1), (40, .getfield 69, 3), (43, .iload_n 1, 1), (44, .laload, 1), (45, .ldiv, 1), (46, .lstore 5, 2), (48, .aload_n 0, 1), (49, .getfield 72, 3), (52, .iload_n 1, 1), (53, .baload, 1), (54, .ifCond .eq 101, 3), (57, .iload 4, 2), (59, .ifCond .eq 53, 3), (62, .aload_n 0, 1), (63, .getfield 44, 3), (66, .iload_n 1, 1), (67, .aload_n 0, 1), (68, .getfield 47, 3), (71, .iload_n 1, 1), (72, .laload, 1), (73, .lconst 0, 1), (74, .lcmp, 1), (75, .ifCond .le 24, 3), (78, .aload_n 0, 1), (79, .getfield 44, 3), (82, .iload_n 1, 1), (83, .laload, 1), (84, .lload_n 2, 1), (85, .lsub, 1), (86, .lload 5, 2), (88, .lmul, 1), (89, .aload_n 0, 1), (90, .getfield 47, 3), (93, .iload_n 1, 1), (94, .laload, 1), (95, .ldiv, 1), (96, .goto 4, 3), (99, .lconst 0, 1), (100, .lastore, 1), (101, .aload_n 0, 1), (102, .getfield 47, 3), (105, .iload_n 1, 1), (106, .lload 5, 2), (108, .lastore, 1), (109, .goto 103, 3), (112, .aload_n 0, 1), (113, .getfield 50, 3), (116, .iload_n 1, 1), (117, .aload_n 0, 1), (118, .getfield 44, 3), (121, .iload_n 1, 1), (122, .laload, 1), (123, .lload_n 2, 1), (124, .lsub, 1), (125, .lastore, 1), (126, .aload_n 0, 1), (127, .getfield 53, 3), (130, .iload_n 1, 1), (131, .aload_n 0, 1), (132, .getfield 47, 3), (135, .iload_n 1, 1), (136, .laload, 1), (137, .lastore, 1), (138, .aload_n 0, 1), (139, .getfield 44, 3), (142, .iload_n 1, 1), (143, .lconst 0, 1), (144, .lastore, 1), (145, .aload_n 0, 1), (146, .getfield 47, 3), (149, .iload_n 1, 1), (150, .lconst 0, 1), (151, .lastore, 1), (152, .goto 60, 3), (155, .iload 4, 2), (157, .ifCond .eq 55, 3), (160, .aload_n 0, 1), (161, .getfield 53, 3), (164, .iload_n 1, 1), (165, .laload, 1), (166, .lconst 0, 1), (167, .lcmp, 1), (168, .ifCond .gt 14, 3), (171, .aload_n 0, 1), (172, .getfield 44, 3), (175, .iload_n 1, 1), (176, .lload 5, 2), (178, .lastore, 1), (179, .goto 25, 3), (182, .aload_n 0, 1), (183, .getfield 44, 3), (186, .iload_n 1, 1), (187, .aload_n 0, 1), (188, .getfield 50, 3), (191, .iload_n 1, 1), (192, .laload, 1), (193, .lload 5, 2), (195, .lmul, 1), (196, .aload_n 0, 1), (197, .getfield 53, 3), (200, .iload_n 1, 1), (201, .laload, 1), (202, .ldiv, 1), (203, .lastore, 1), (204, .aload_n 0, 1), (205, .getfield 47, 3), (208, .iload_n 1, 1), (209, .lload 5, 2), (211, .lastore, 1), (212, .return_, 1)], 7, 0, 0)
def PP : Cl := ("StrideScheduler", [(39, ("q", "I", 0, false)), (40, ("count", "I", 0, false)), (41, ("created", "I", 0, false)), (42, ("epochs", "I", 0, false)), (43, ("dispatches", "I", 0, false)), (44, ("curParent", "[I", 3, false)), (45, ("curBacking", "[I", 4, false)), (46, ("issued", "[J", 5, false)), (47, ("worth", "[J", 6, false)), (48, ("state", "[I", 7, false)), (49, ("cur", "[I", 8, false)), (50, ("amt", "[I", 9, false)), (51, ("link", "[I", 10, false)), (52, ("quanta", "[I", 11, false)), (53, ("total", "[I", 12, false)), (54, ("comp", "[J", 13, false)), (55, ("pass", "[J", 14, false)), (56, ("stride", "[J", 15, false)), (57, ("remain", "[J", 16, false)), (58, ("remStride", "[J", 17, false)), (59, ("holder", "[I", 18, false)), (60, ("active", "[Z", 19, false)), (61, ("value", "[J", 20, false)), (62, ("base", "[J", 21, false)), (63, ("tick", "[J", 22, false)), (64, ("inP", "[Z", 23, false))], [(0, 8), (0, 8), (2, 8), (2, 8), (0, 16), (0, 16), (0, 16), (0, 16), (0, 16), (0, 16), (2, 16), (2, 16), (2, 16), (2, 16), (2, 16), (0, 16), (1, 16), (2, 16), (2, 16), (2, 16), (1, 16)], [(7, 44), (13, 45), (16, 46), (20, 47), (23, 48), (26, 49), (29, 50), (32, 51), (35, 52), (38, 53), (41, 54), (44, 55), (47, 56), (50, 57), (53, 58), (56, 59), (59, 60), (63, 61), (66, 62), (69, 63), (72, 64), (75, 39), (79, 40), (82, 41), (85, 42), (88, 43)], [(91, 13), (95, 18), (98, 27), (107, 16), (111, 19), (114, 17), (118, 21), (121, 22), (124, 23), (127, 24), (130, 25), (133, 20), (136, 26), (140, 28)], [(144, .long (1048576 : Int64))], [(0, cm0), (2, cm2), (3, cm3), (9, cm9), (10, cm10), (11, cm11), (12, cm12), (13, cm13), (16, cm16), (17, cm17), (18, cm18), (19, cm19), (20, cm20), (21, cm21), (22, cm22), (23, cm23), (24, cm24), (25, cm25), (26, cm26), (27, cm27), (28, cm28)], 1)
def lm0 : Me := ("law", "(IIII)Z", 4, 2, [(0, .iload_n 1, 1), (1, .sipush 511, 3), (4, .iand, 1), (5, .iconst 1, 1), (6, .iadd, 1), (7, .istore 4, 2), (9, .iload_n 2, 1), (10, .sipush 511, 3), (13, .iand, 1), (14, .iconst 1, 1), (15, .iadd, 1), (16, .istore 5, 2), (18, .iload_n 3, 1), (19, .sipush 511, 3), (22, .iand, 1), (23, .iconst 1, 1), (24, .iadd, 1), (25, .istore 6, 2), (27, .iload_n 0, 1), (28, .iconst 1, 1), (29, .if_icmp .ge 7, 3), (32, .iconst 1, 1), (33, .goto 15, 3), (36, .iload_n 0, 1), (37, .bipush 16, 2), (39, .if_icmp .le 8, 3), (42, .bipush 16, 2), (44, .goto 4, 3), (47, .iload_n 0, 1), (48, .istore 7, 2), (50, .new 7, 3), (53, .dup, 1), (54, .iload_n 0, 1), (55, .invokespecial 9, 3), (58, .astore 8, 2), (60, .aload 8, 2), (62, .iconst 0, 1), (63, .iload 6, 2), (65, .invokevirtual 12, 3), (68, .istore 9, 2), (70, .aload 8, 2), (72, .iconst 0, 1), (73, .iload 4, 2), (75, .invokevirtual 16, 3), (78, .istore 10, 2), (80, .aload 8, 2), (82, .iconst 1, 1), (83, .iload 5, 2), (85, .invokevirtual 16, 3), (88, .istore 11, 2), (90, .iload 9, 2), (92, .iconst 1, 1), (93, .if_icmp .ne 18, 3), (96, .iload 10, 2), (98, .ifCond .ne 13, 3), (101, .iload 11, 2), (103, .iconst 1, 1), (104, .if_icmp .ne 7, 3), (107, .iconst 1, 1), (108, .goto 4, 3), (111, .iconst 0, 1), (112, .istore 12, 2), (114, .ldc 19, 2), (116, .iload 4, 2), (118, .idiv, 1), (119, .i2l, 1), (120, .lstore 13, 2), (122, .ldc 19, 2), (124, .iload 6, 2), (126, .idiv, 1), (127, .i2l, 1), (128, .lstore 15, 2), (130, .lconst 0, 1), (131, .lstore 17, 2), (133, .lload 15, 2), (135, .lstore 19, 2), (137, .iconst 0, 1), (138, .istore 21, 2), (140, .iconst 0, 1), (141, .istore 22, 2), (143, .iconst 0, 1), (144, .istore 23, 2), (146, .iload 23, 2), (148, .bipush 8, 2), (150, .if_icmp .ge 84, 3), (153, .aload 8, 2), (155, .iload 7, 2), (157, .invokevirtual 20, 3), (160, .istore 24, 2), (162, .lload 17, 2), (164, .lload 19, 2), (166, .lcmp, 1), (167, .ifCond .gt 33, 3), (170, .iload 12, 2), (172, .ifCond .eq 12, 3), (175, .iload 24, 2), (177, .ifCond .ne 7, 3), (180, .iconst 1, 1), (181, .goto 4, 3), (184, .iconst 0, 1), (185, .istore 12, 2), (187, .lload 17, 2), (189, .lload 13, 2), (191, .ladd, 1), (192, .lstore 17, 2), (194, .iinc 21 1, 3), (197, .goto 31, 3), (200, .iload 12, 2), (202, .ifCond .eq 13, 3), (205, .iload 24, 2), (207, .iconst 1, 1), (208, .if_icmp .ne 7, 3), (211, .iconst 1, 1), (212, .goto 4, 3), (215, .iconst 0, 1), (216, .istore 12, 2), (218, .lload 19, 2), (220, .lload 15, 2), (222, .ladd, 1), (223, .lstore 19, 2), (225, .iinc 22 1, 3), (228, .iinc 23 1, 3), (231, .goto (-85), 3), (234, .aload 8, 2), (236, .iconst 0, 1), (237, .iconst 4, 1), (238, .invokevirtual 24, 3), (241, .istore 23, 2), (243, .aload 8, 2), (245, .iconst 1, 1), (246, .iconst 4, 1), (247, .invokevirtual 24, 3), (250, .istore 24, 2), (252, .aload 8, 2), (254, .iconst 0, 1), (255, .bipush 8, 2), (257, .invokevirtual 24, 3), (260, .istore 25, 2), (262, .aload 8, 2), (264, .iconst 1, 1), (265, .bipush 8, 2), (267, .invokevirtual 24, 3), (270, .istore 26, 2), (272, .aload 8, 2), (274, .iconst 0, 1), (275, .bipush 6, 2), (277, .invokevirtual 24, 3), (280, .istore 27, 2), (282, .aload 8, 2), (284, .iconst 1, 1), (285, .bipush 6, 2), (287, .invokevirtual 24, 3), (290, .istore 28, 2), (292, .aload 8, 2), (294, .iconst 4, 1), (295, .invokevirtual 27, 3), (298, .istore 29, 2), (300, .aload 8, 2), (302, .iconst 0, 1), (303, .invokevirtual 27, 3), (306, .istore 30, 2), (308, .aload 8, 2), (310, .iconst 0, 1), (311, .iconst 2, 1), (312, .invokevirtual 30, 3), (315, .istore 31, 2), (317, .aload 8, 2), (319, .iconst 1, 1), (320, .iconst 3, 1), (321, .invokevirtual 30, 3), (324, .istore 32, 2), (326, .iload 12, 2), (328, .ifCond .eq 83, 3), (331, .iload 23, 2), (333, .iload 4, 2), (335, .if_icmp .ne 76, 3), (338, .iload 24, 2), (340, .iload 6, 2), (342, .if_icmp .ne 69, 3), (345, .iload 25, 2), (347, .iload 21, 2), (349, .if_icmp .ne 62, 3), (352, .iload 26, 2), (354, .iload 22, 2), (356, .if_icmp .ne 55, 3), (359, .iload 27, 2), (361, .i2l, 1), (362, .lload 17, 2), (364, .lcmp, 1), (365, .ifCond .ne 46, 3), (368, .iload 28, 2), (370, .i2l, 1), (371, .lload 19, 2), (373, .lcmp, 1), (374, .ifCond .ne 37, 3), (377, .iload 29, 2), (379, .bipush 8, 2), (381, .if_icmp .ne 30, 3), (384, .iload 30, 2), (386, .iconst 2, 1), (387, .if_icmp .ne 24, 3), (390, .iload 31, 2), (392, .iload 4, 2), (394, .iload 6, 2), (396, .iadd, 1), (397, .if_icmp .ne 14, 3), (400, .iload 32, 2), (402, .iload 6, 2), (404, .if_icmp .ne 7, 3), (407, .iconst 1, 1), (408, .goto 4, 3), (411, .iconst 0, 1), (412, .ireturn, 1)], 33, 8, 176)
def QQ : Lw := ("StrideSchedulerL3", [], [(12, 2), (16, 3), (20, 9), (24, 10), (27, 12), (30, 11)], 9, 7, 26, [(19, .int (1048576 : Int32))], [(0, lm0)], 56, 768)
set_option maxRecDepth 100000
set_option maxHeartbeats 1000000
theorem dk_c0 : chk prog_1_method_1_code cm0.cd = true := by decide +kernel
theorem dk_c2 : chk prog_1_method_2_code cm2.cd = true := by decide +kernel
theorem dk_c13 : chk prog_1_method_13_code cm13.cd = true := by decide +kernel
theorem dk_c3 : chk prog_1_method_3_code cm3.cd = true := by decide +kernel
theorem dk_c18 : chk prog_1_method_18_code cm18.cd = true := by decide +kernel
theorem dk_c27 : chk prog_1_method_27_code cm27.cd = true := by decide +kernel
theorem dk_c19 : chk prog_1_method_19_code cm19.cd = true := by decide +kernel
theorem dk_c21 : chk prog_1_method_21_code cm21.cd = true := by decide +kernel
theorem dk_c20 : chk prog_1_method_20_code cm20.cd = true := by decide +kernel
theorem dk_c22 : chk prog_1_method_22_code cm22.cd = true := by decide +kernel
theorem dk_c23 : chk prog_1_method_23_code cm23.cd = true := by decide +kernel
theorem dk_c24 : chk prog_1_method_24_code cm24.cd = true := by decide +kernel
theorem dk_c25 : chk prog_1_method_25_code cm25.cd = true := by decide +kernel
theorem dk_c26 : chk prog_1_method_26_code cm26.cd = true := by decide +kernel
theorem dk_c28 : chk prog_1_method_28_code cm28.cd = true := by decide +kernel
theorem dk_c9 : chk prog_1_method_9_code cm9.cd = true := by decide +kernel
theorem dk_c16 : chk prog_1_method_16_code cm16.cd = true := by decide +kernel
theorem dk_c10 : chk prog_1_method_10_code cm10.cd = true := by decide +kernel
theorem dk_c17 : chk prog_1_method_17_code cm17.cd = true := by decide +kernel
theorem dk_c12 : chk prog_1_method_12_code cm12.cd = true := by decide +kernel
theorem dk_c11 : chk prog_1_method_11_code cm11.cd = true := by decide +kernel
theorem dk_l0 : chk code lm0.cd = true := by decide +kernel
theorem pk_c0 : parseMethodDescriptor "(I)V" = some ⟨[.int], none⟩ := by decide +kernel
theorem pk_c2 : parseMethodDescriptor "(II)I" = some ⟨[.int, .int], some .int⟩ := by decide +kernel
theorem pk_c13 : parseMethodDescriptor "(I)Z" = some ⟨[.int], some .boolean⟩ := by decide +kernel
theorem pk_c3 : parseMethodDescriptor "(II)I" = some ⟨[.int, .int], some .int⟩ := by decide +kernel
theorem pk_c18 : parseMethodDescriptor "()V" = some ⟨[], none⟩ := by decide +kernel
theorem pk_c27 : parseMethodDescriptor "()V" = some ⟨[], none⟩ := by decide +kernel
theorem pk_c19 : parseMethodDescriptor "()V" = some ⟨[], none⟩ := by decide +kernel
theorem pk_c21 : parseMethodDescriptor "()V" = some ⟨[], none⟩ := by decide +kernel
theorem pk_c20 : parseMethodDescriptor "(I)I" = some ⟨[.int], some .int⟩ := by decide +kernel
theorem pk_c22 : parseMethodDescriptor "()V" = some ⟨[], none⟩ := by decide +kernel
theorem pk_c23 : parseMethodDescriptor "()V" = some ⟨[], none⟩ := by decide +kernel
theorem pk_c24 : parseMethodDescriptor "()V" = some ⟨[], none⟩ := by decide +kernel
theorem pk_c25 : parseMethodDescriptor "()V" = some ⟨[], none⟩ := by decide +kernel
theorem pk_c26 : parseMethodDescriptor "()J" = some ⟨[], some .long⟩ := by decide +kernel
theorem pk_c28 : parseMethodDescriptor "(IJ)V" = some ⟨[.int, .long], none⟩ := by decide +kernel
theorem pk_c9 : parseMethodDescriptor "(I)I" = some ⟨[.int], some .int⟩ := by decide +kernel
theorem pk_c16 : parseMethodDescriptor "()I" = some ⟨[], some .int⟩ := by decide +kernel
theorem pk_c10 : parseMethodDescriptor "(II)I" = some ⟨[.int, .int], some .int⟩ := by decide +kernel
theorem pk_c17 : parseMethodDescriptor "(I)I" = some ⟨[.int], some .int⟩ := by decide +kernel
theorem pk_c12 : parseMethodDescriptor "(I)I" = some ⟨[.int], some .int⟩ := by decide +kernel
theorem pk_c11 : parseMethodDescriptor "(II)I" = some ⟨[.int, .int], some .int⟩ := by decide +kernel
theorem lkC (Z : State) (a0 : Array Value) (hw : ∀ d ∈ tables_1, d.before a0 Z = true) : LinkC PP Z a0 :=
  ⟨⟨⟨26, (hw _ (List.mem_of_getElem? (i := 1) rfl))⟩, (hw _ (List.mem_of_getElem? (i := 2) rfl))⟩,
   asc_all (⟨by intro z h; obtain rfl : ("curParent", "[I", 3, false) = z := Option.some.inj h; exact (hw _ (List.mem_of_getElem? (i := 10) rfl)), by intro z h; obtain rfl : ("curBacking", "[I", 4, false) = z := Option.some.inj h; exact (hw _ (List.mem_of_getElem? (i := 12) rfl)), by intro z h; obtain rfl : ("issued", "[J", 5, false) = z := Option.some.inj h; exact (hw _ (List.mem_of_getElem? (i := 15) rfl)), by intro z h; obtain rfl : ("worth", "[J", 6, false) = z := Option.some.inj h; exact (hw _ (List.mem_of_getElem? (i := 17) rfl)), by intro z h; obtain rfl : ("state", "[I", 7, false) = z := Option.some.inj h; exact (hw _ (List.mem_of_getElem? (i := 19) rfl)), by intro z h; obtain rfl : ("cur", "[I", 8, false) = z := Option.some.inj h; exact (hw _ (List.mem_of_getElem? (i := 21) rfl)), by intro z h; obtain rfl : ("amt", "[I", 9, false) = z := Option.some.inj h; exact (hw _ (List.mem_of_getElem? (i := 23) rfl)), by intro z h; obtain rfl : ("link", "[I", 10, false) = z := Option.some.inj h; exact (hw _ (List.mem_of_getElem? (i := 25) rfl)), by intro z h; obtain rfl : ("quanta", "[I", 11, false) = z := Option.some.inj h; exact (hw _ (List.mem_of_getElem? (i := 27) rfl)), by intro z h; obtain rfl : ("total", "[I", 12, false) = z := Option.some.inj h; exact (hw _ (List.mem_of_getElem? (i := 29) rfl)), by intro z h; obtain rfl : ("comp", "[J", 13, false) = z := Option.some.inj h; exact (hw _ (List.mem_of_getElem? (i := 31) rfl)), by intro z h; obtain rfl : ("pass", "[J", 14, false) = z := Option.some.inj h; exact (hw _ (List.mem_of_getElem? (i := 33) rfl)), by intro z h; obtain rfl : ("stride", "[J", 15, false) = z := Option.some.inj h; exact (hw _ (List.mem_of_getElem? (i := 35) rfl)), by intro z h; obtain rfl : ("remain", "[J", 16, false) = z := Option.some.inj h; exact (hw _ (List.mem_of_getElem? (i := 37) rfl)), by intro z h; obtain rfl : ("remStride", "[J", 17, false) = z := Option.some.inj h; exact (hw _ (List.mem_of_getElem? (i := 39) rfl)), by intro z h; obtain rfl : ("holder", "[I", 18, false) = z := Option.some.inj h; exact (hw _ (List.mem_of_getElem? (i := 41) rfl)), by intro z h; obtain rfl : ("active", "[Z", 19, false) = z := Option.some.inj h; exact (hw _ (List.mem_of_getElem? (i := 44) rfl)), by intro z h; obtain rfl : ("value", "[J", 20, false) = z := Option.some.inj h; exact (hw _ (List.mem_of_getElem? (i := 46) rfl)), by intro z h; obtain rfl : ("base", "[J", 21, false) = z := Option.some.inj h; exact (hw _ (List.mem_of_getElem? (i := 48) rfl)), by intro z h; obtain rfl : ("tick", "[J", 22, false) = z := Option.some.inj h; exact (hw _ (List.mem_of_getElem? (i := 50) rfl)), by intro z h; obtain rfl : ("inP", "[Z", 23, false) = z := Option.some.inj h; exact (hw _ (List.mem_of_getElem? (i := 52) rfl)), by intro z h; obtain rfl : ("q", "I", 0, false) = z := Option.some.inj h; exact (hw _ (List.mem_of_getElem? (i := 54) rfl)), by intro z h; obtain rfl : ("count", "I", 0, false) = z := Option.some.inj h; exact (hw _ (List.mem_of_getElem? (i := 56) rfl)), by intro z h; obtain rfl : ("created", "I", 0, false) = z := Option.some.inj h; exact (hw _ (List.mem_of_getElem? (i := 58) rfl)), by intro z h; obtain rfl : ("epochs", "I", 0, false) = z := Option.some.inj h; exact (hw _ (List.mem_of_getElem? (i := 60) rfl)), by intro z h; obtain rfl : ("dispatches", "I", 0, false) = z := Option.some.inj h; exact (hw _ (List.mem_of_getElem? (i := 62) rfl)), trivial⟩),
   asc_all (⟨(hw _ (List.mem_of_getElem? (i := 55) rfl)), (hw _ (List.mem_of_getElem? (i := 57) rfl)), (hw _ (List.mem_of_getElem? (i := 59) rfl)), (hw _ (List.mem_of_getElem? (i := 61) rfl)), (hw _ (List.mem_of_getElem? (i := 63) rfl)), (hw _ (List.mem_of_getElem? (i := 11) rfl)), (hw _ (List.mem_of_getElem? (i := 13) rfl)), (hw _ (List.mem_of_getElem? (i := 16) rfl)), (hw _ (List.mem_of_getElem? (i := 18) rfl)), (hw _ (List.mem_of_getElem? (i := 20) rfl)), (hw _ (List.mem_of_getElem? (i := 22) rfl)), (hw _ (List.mem_of_getElem? (i := 24) rfl)), (hw _ (List.mem_of_getElem? (i := 26) rfl)), (hw _ (List.mem_of_getElem? (i := 28) rfl)), (hw _ (List.mem_of_getElem? (i := 30) rfl)), (hw _ (List.mem_of_getElem? (i := 32) rfl)), (hw _ (List.mem_of_getElem? (i := 34) rfl)), (hw _ (List.mem_of_getElem? (i := 36) rfl)), (hw _ (List.mem_of_getElem? (i := 38) rfl)), (hw _ (List.mem_of_getElem? (i := 40) rfl)), (hw _ (List.mem_of_getElem? (i := 42) rfl)), (hw _ (List.mem_of_getElem? (i := 45) rfl)), (hw _ (List.mem_of_getElem? (i := 47) rfl)), (hw _ (List.mem_of_getElem? (i := 49) rfl)), (hw _ (List.mem_of_getElem? (i := 51) rfl)), (hw _ (List.mem_of_getElem? (i := 53) rfl)), trivial⟩),
   asc_all (⟨(by decide +kernel), (by decide +kernel), (by decide +kernel), (by decide +kernel), (by decide +kernel), (by decide +kernel), (by decide +kernel), (by decide +kernel), (by decide +kernel), (by decide +kernel), (by decide +kernel), (by decide +kernel), (by decide +kernel), (by decide +kernel), (by decide +kernel), (by decide +kernel), (by decide +kernel), (by decide +kernel), (by decide +kernel), (by decide +kernel), (by decide +kernel), (by decide +kernel), (by decide +kernel), (by decide +kernel), (by decide +kernel), (by decide +kernel), trivial⟩),
   dst_ok (by decide +kernel),
   lst_all (⟨⟨by decide, (hw _ (List.mem_of_getElem? (i := 9) rfl))⟩, ⟨by decide, (hw _ (List.mem_of_getElem? (i := 9) rfl))⟩, ⟨by decide, (hw _ (List.mem_of_getElem? (i := 14) rfl))⟩, ⟨by decide, (hw _ (List.mem_of_getElem? (i := 14) rfl))⟩, ⟨by decide, (hw _ (List.mem_of_getElem? (i := 9) rfl))⟩, ⟨by decide, (hw _ (List.mem_of_getElem? (i := 9) rfl))⟩, ⟨by decide, (hw _ (List.mem_of_getElem? (i := 9) rfl))⟩, ⟨by decide, (hw _ (List.mem_of_getElem? (i := 9) rfl))⟩, ⟨by decide, (hw _ (List.mem_of_getElem? (i := 9) rfl))⟩, ⟨by decide, (hw _ (List.mem_of_getElem? (i := 9) rfl))⟩, ⟨by decide, (hw _ (List.mem_of_getElem? (i := 14) rfl))⟩, ⟨by decide, (hw _ (List.mem_of_getElem? (i := 14) rfl))⟩, ⟨by decide, (hw _ (List.mem_of_getElem? (i := 14) rfl))⟩, ⟨by decide, (hw _ (List.mem_of_getElem? (i := 14) rfl))⟩, ⟨by decide, (hw _ (List.mem_of_getElem? (i := 14) rfl))⟩, ⟨by decide, (hw _ (List.mem_of_getElem? (i := 9) rfl))⟩, ⟨by decide, (hw _ (List.mem_of_getElem? (i := 43) rfl))⟩, ⟨by decide, (hw _ (List.mem_of_getElem? (i := 14) rfl))⟩, ⟨by decide, (hw _ (List.mem_of_getElem? (i := 14) rfl))⟩, ⟨by decide, (hw _ (List.mem_of_getElem? (i := 14) rfl))⟩, ⟨by decide, (hw _ (List.mem_of_getElem? (i := 43) rfl))⟩, trivial⟩),
   asc_all (⟨(hw _ (List.mem_of_getElem? (i := 122) rfl)), trivial⟩),
   ⟨(hw _ (List.mem_of_getElem? (i := 6) rfl)), (hw _ (List.mem_of_getElem? (i := 7) rfl)), (hw _ (List.mem_of_getElem? (i := 8) rfl))⟩,
   asc_all (⟨⟨prog_1_method_1_code, [.int], (hw _ (List.mem_of_getElem? (i := 5) rfl)), chk_ok dk_c0, pk_c0, rfl⟩, ⟨prog_1_method_2_code, [.int, .int], (hw _ (List.mem_of_getElem? (i := 68) rfl)), chk_ok dk_c2, pk_c2, rfl⟩, ⟨prog_1_method_3_code, [.int, .int], (hw _ (List.mem_of_getElem? (i := 77) rfl)), chk_ok dk_c3, pk_c3, rfl⟩, ⟨prog_1_method_9_code, [.int], (hw _ (List.mem_of_getElem? (i := 128) rfl)), chk_ok dk_c9, pk_c9, rfl⟩, ⟨prog_1_method_10_code, [.int, .int], (hw _ (List.mem_of_getElem? (i := 137) rfl)), chk_ok dk_c10, pk_c10, rfl⟩, ⟨prog_1_method_11_code, [.int, .int], (hw _ (List.mem_of_getElem? (i := 151) rfl)), chk_ok dk_c11, pk_c11, rfl⟩, ⟨prog_1_method_12_code, [.int], (hw _ (List.mem_of_getElem? (i := 146) rfl)), chk_ok dk_c12, pk_c12, rfl⟩, ⟨prog_1_method_13_code, [.int], (hw _ (List.mem_of_getElem? (i := 72) rfl)), chk_ok dk_c13, pk_c13, rfl⟩, ⟨prog_1_method_16_code, [], (hw _ (List.mem_of_getElem? (i := 132) rfl)), chk_ok dk_c16, pk_c16, rfl⟩, ⟨prog_1_method_17_code, [.int], (hw _ (List.mem_of_getElem? (i := 141) rfl)), chk_ok dk_c17, pk_c17, rfl⟩, ⟨prog_1_method_18_code, [], (hw _ (List.mem_of_getElem? (i := 81) rfl)), chk_ok dk_c18, pk_c18, rfl⟩, ⟨prog_1_method_19_code, [], (hw _ (List.mem_of_getElem? (i := 89) rfl)), chk_ok dk_c19, pk_c19, rfl⟩, ⟨prog_1_method_20_code, [.int], (hw _ (List.mem_of_getElem? (i := 97) rfl)), chk_ok dk_c20, pk_c20, rfl⟩, ⟨prog_1_method_21_code, [], (hw _ (List.mem_of_getElem? (i := 93) rfl)), chk_ok dk_c21, pk_c21, rfl⟩, ⟨prog_1_method_22_code, [], (hw _ (List.mem_of_getElem? (i := 101) rfl)), chk_ok dk_c22, pk_c22, rfl⟩, ⟨prog_1_method_23_code, [], (hw _ (List.mem_of_getElem? (i := 105) rfl)), chk_ok dk_c23, pk_c23, rfl⟩, ⟨prog_1_method_24_code, [], (hw _ (List.mem_of_getElem? (i := 109) rfl)), chk_ok dk_c24, pk_c24, rfl⟩, ⟨prog_1_method_25_code, [], (hw _ (List.mem_of_getElem? (i := 113) rfl)), chk_ok dk_c25, pk_c25, rfl⟩, ⟨prog_1_method_26_code, [], (hw _ (List.mem_of_getElem? (i := 117) rfl)), chk_ok dk_c26, pk_c26, rfl⟩, ⟨prog_1_method_27_code, [], (hw _ (List.mem_of_getElem? (i := 85) rfl)), chk_ok dk_c27, pk_c27, rfl⟩, ⟨prog_1_method_28_code, [.int, .long], (hw _ (List.mem_of_getElem? (i := 121) rfl)), chk_ok dk_c28, pk_c28, rfl⟩, trivial⟩),
   asc_all (⟨by intro z h; obtain rfl : cm13 = z := Option.some.inj h; exact ⟨(hw _ (List.mem_of_getElem? (i := 69) rfl)), (hw _ (List.mem_of_getElem? (i := 70) rfl)), Or.inl (hw _ (List.mem_of_getElem? (i := 71) rfl))⟩, by intro z h; obtain rfl : cm18 = z := Option.some.inj h; exact ⟨(hw _ (List.mem_of_getElem? (i := 78) rfl)), (hw _ (List.mem_of_getElem? (i := 79) rfl)), Or.inl (hw _ (List.mem_of_getElem? (i := 80) rfl))⟩, by intro z h; obtain rfl : cm27 = z := Option.some.inj h; exact ⟨(hw _ (List.mem_of_getElem? (i := 82) rfl)), (hw _ (List.mem_of_getElem? (i := 83) rfl)), Or.inl (hw _ (List.mem_of_getElem? (i := 84) rfl))⟩, by intro z h; obtain rfl : cm16 = z := Option.some.inj h; exact ⟨(hw _ (List.mem_of_getElem? (i := 129) rfl)), (hw _ (List.mem_of_getElem? (i := 130) rfl)), Or.inl (hw _ (List.mem_of_getElem? (i := 131) rfl))⟩, by intro z h; obtain rfl : cm19 = z := Option.some.inj h; exact ⟨(hw _ (List.mem_of_getElem? (i := 86) rfl)), (hw _ (List.mem_of_getElem? (i := 87) rfl)), Or.inl (hw _ (List.mem_of_getElem? (i := 88) rfl))⟩, by intro z h; obtain rfl : cm17 = z := Option.some.inj h; exact ⟨(hw _ (List.mem_of_getElem? (i := 138) rfl)), (hw _ (List.mem_of_getElem? (i := 139) rfl)), Or.inl (hw _ (List.mem_of_getElem? (i := 140) rfl))⟩, by intro z h; obtain rfl : cm21 = z := Option.some.inj h; exact ⟨(hw _ (List.mem_of_getElem? (i := 90) rfl)), (hw _ (List.mem_of_getElem? (i := 91) rfl)), Or.inl (hw _ (List.mem_of_getElem? (i := 92) rfl))⟩, by intro z h; obtain rfl : cm22 = z := Option.some.inj h; exact ⟨(hw _ (List.mem_of_getElem? (i := 98) rfl)), (hw _ (List.mem_of_getElem? (i := 99) rfl)), Or.inl (hw _ (List.mem_of_getElem? (i := 100) rfl))⟩, by intro z h; obtain rfl : cm23 = z := Option.some.inj h; exact ⟨(hw _ (List.mem_of_getElem? (i := 102) rfl)), (hw _ (List.mem_of_getElem? (i := 103) rfl)), Or.inl (hw _ (List.mem_of_getElem? (i := 104) rfl))⟩, by intro z h; obtain rfl : cm24 = z := Option.some.inj h; exact ⟨(hw _ (List.mem_of_getElem? (i := 106) rfl)), (hw _ (List.mem_of_getElem? (i := 107) rfl)), Or.inl (hw _ (List.mem_of_getElem? (i := 108) rfl))⟩, by intro z h; obtain rfl : cm25 = z := Option.some.inj h; exact ⟨(hw _ (List.mem_of_getElem? (i := 110) rfl)), (hw _ (List.mem_of_getElem? (i := 111) rfl)), Or.inl (hw _ (List.mem_of_getElem? (i := 112) rfl))⟩, by intro z h; obtain rfl : cm20 = z := Option.some.inj h; exact ⟨(hw _ (List.mem_of_getElem? (i := 94) rfl)), (hw _ (List.mem_of_getElem? (i := 95) rfl)), Or.inl (hw _ (List.mem_of_getElem? (i := 96) rfl))⟩, by intro z h; obtain rfl : cm26 = z := Option.some.inj h; exact ⟨(hw _ (List.mem_of_getElem? (i := 114) rfl)), (hw _ (List.mem_of_getElem? (i := 115) rfl)), Or.inl (hw _ (List.mem_of_getElem? (i := 116) rfl))⟩, by intro z h; obtain rfl : cm28 = z := Option.some.inj h; exact ⟨(hw _ (List.mem_of_getElem? (i := 118) rfl)), (hw _ (List.mem_of_getElem? (i := 119) rfl)), Or.inl (hw _ (List.mem_of_getElem? (i := 120) rfl))⟩, trivial⟩),
   (by first | (simp [plainName, overriddenIn]; done) | decide +kernel),
   (by decide),
   (by intro me h; obtain rfl : cm0 = me := Option.some.inj h; rfl)⟩
theorem lkL (Z : State) (a0 : Array Value) (hw : ∀ d ∈ tables_1, d.before a0 Z = true) : LinkL PP QQ Z a0 :=
  ⟨⟨(hw _ (List.mem_of_getElem? (i := 0) rfl)), (hw _ (List.mem_of_getElem? (i := 1) rfl))⟩,
   (by intro me h; obtain rfl : cm0 = me := Option.some.inj h; exact ⟨(hw _ (List.mem_of_getElem? (i := 3) rfl)), (hw _ (List.mem_of_getElem? (i := 4) rfl)), rfl⟩),
   asc_all (⟨by intro z h; obtain rfl : cm2 = z := Option.some.inj h; exact ⟨(hw _ (List.mem_of_getElem? (i := 64) rfl)), (hw _ (List.mem_of_getElem? (i := 65) rfl)), (hw _ (List.mem_of_getElem? (i := 66) rfl)), (hw _ (List.mem_of_getElem? (i := 67) rfl))⟩, by intro z h; obtain rfl : cm3 = z := Option.some.inj h; exact ⟨(hw _ (List.mem_of_getElem? (i := 73) rfl)), (hw _ (List.mem_of_getElem? (i := 74) rfl)), (hw _ (List.mem_of_getElem? (i := 75) rfl)), (hw _ (List.mem_of_getElem? (i := 76) rfl))⟩, by intro z h; obtain rfl : cm9 = z := Option.some.inj h; exact ⟨(hw _ (List.mem_of_getElem? (i := 124) rfl)), (hw _ (List.mem_of_getElem? (i := 125) rfl)), (hw _ (List.mem_of_getElem? (i := 126) rfl)), (hw _ (List.mem_of_getElem? (i := 127) rfl))⟩, by intro z h; obtain rfl : cm10 = z := Option.some.inj h; exact ⟨(hw _ (List.mem_of_getElem? (i := 133) rfl)), (hw _ (List.mem_of_getElem? (i := 134) rfl)), (hw _ (List.mem_of_getElem? (i := 135) rfl)), (hw _ (List.mem_of_getElem? (i := 136) rfl))⟩, by intro z h; obtain rfl : cm12 = z := Option.some.inj h; exact ⟨(hw _ (List.mem_of_getElem? (i := 142) rfl)), (hw _ (List.mem_of_getElem? (i := 143) rfl)), (hw _ (List.mem_of_getElem? (i := 144) rfl)), (hw _ (List.mem_of_getElem? (i := 145) rfl))⟩, by intro z h; obtain rfl : cm11 = z := Option.some.inj h; exact ⟨(hw _ (List.mem_of_getElem? (i := 147) rfl)), (hw _ (List.mem_of_getElem? (i := 148) rfl)), (hw _ (List.mem_of_getElem? (i := 149) rfl)), (hw _ (List.mem_of_getElem? (i := 150) rfl))⟩, trivial⟩),
   asc_all (trivial),
   asc_all (⟨(hw _ (List.mem_of_getElem? (i := 123) rfl)), trivial⟩),
   asc_all (⟨fun h => absurd rfl h, trivial⟩),
   (by first | (simp [plainName, overriddenIn]; done) | decide +kernel),
   (by decide)⟩
theorem c0_in (a1 : Int32) (s : St) (Q : St → Prop) (h : ∀ m106, m106 = (if a1 < (1 : Int32) then (1 : Int32) else a1) → (∀ m109, m109 = (if (16 : Int32) < m106 then (16 : Int32) else m106) → (inb 8 (0 : Int32) ∧ inb 8 (0 : Int32) ∧ Q (sI (sI (sI (sI (sI (sI (sI s 0 39 m109) 0 40 (1 : Int32)) 1 (ix (0 : Int32)) (-1 : Int32)) 2 (ix (0 : Int32)) (0 : Int32)) 0 41 (0 : Int32)) 0 42 (0 : Int32)) 0 43 (0 : Int32))))) : calV PP 0 0 [.ref 0, .int a1] s Q := by
  refine cal_of (me := cm0) (ls := [some (.ref 0), some (.int a1), none]) rfl (Nat.le_of_ble_eq_true rfl) rfl ?_
  refine wpc_sl (n := 69) (c' := 21) (pc' := 176) (ls' := [some (.ref 0), some (.int a1), some (.int a1)]) (st' := [.int (1 : Int32), .int a1]) (s' := s) rfl ?_
  have hm107 : ∀ m106, m106 = (if a1 < (1 : Int32) then (1 : Int32) else a1) → wpcV PP 0 cm0 21 181 [some (.ref 0), some (.int a1), some (.int m106)] [] s Q := by
    intro m106 em106
    have h108 := h m106 em106
    refine wpc_sl (n := 2) (c' := 21) (pc' := 184) (ls' := [some (.ref 0), some (.int a1), some (.int m106)]) (st' := [.int (16 : Int32), .int m106]) (s' := s) rfl ?_
    have hm110 : ∀ m109, m109 = (if (16 : Int32) < m106 then (16 : Int32) else m106) → wpcV PP 0 cm0 21 190 [some (.ref 0), some (.int a1), some (.int m109)] [] s Q := by
      intro m109 em109
      have h111 := h108 m109 em109
      refine wpc_sl (n := 10) (c' := 21) (pc' := 206) (ls' := [some (.ref 0), some (.int a1), some (.int m109)]) (st' := [.int (-1 : Int32), .int (0 : Int32), .ref 1]) (s' := (sI (sI s 0 39 m109) 0 40 (1 : Int32))) rfl ?_
      refine wpc_staI (a := 0) (N := 8) (s' := (sI (sI (sI s 0 39 m109) 0 40 (1 : Int32)) 1 (ix (0 : Int32)) (-1 : Int32))) rfl rfl (by decide) h111.1 rfl ?_
      have h112 := h111.2
      refine wpc_sl (n := 4) (c' := 21) (pc' := 213) (ls' := [some (.ref 0), some (.int a1), some (.int m109)]) (st' := [.int (0 : Int32), .int (0 : Int32), .ref 2]) (s' := (sI (sI (sI s 0 39 m109) 0 40 (1 : Int32)) 1 (ix (0 : Int32)) (-1 : Int32))) rfl ?_
      refine wpc_staI (a := 1) (N := 8) (s' := (sI (sI (sI (sI s 0 39 m109) 0 40 (1 : Int32)) 1 (ix (0 : Int32)) (-1 : Int32)) 2 (ix (0 : Int32)) (0 : Int32))) rfl rfl (by decide) h112.1 rfl ?_
      have h113 := h112.2
      refine wpc_sl (n := 9) (c' := 21) (pc' := 229) (ls' := [some (.ref 0), some (.int a1), some (.int m109)]) (st' := []) (s' := (sI (sI (sI (sI (sI (sI (sI s 0 39 m109) 0 40 (1 : Int32)) 1 (ix (0 : Int32)) (-1 : Int32)) 2 (ix (0 : Int32)) (0 : Int32)) 0 41 (0 : Int32)) 0 42 (0 : Int32)) 0 43 (0 : Int32))) rfl ?_
      exact wpc_ret rfl rfl (fun _ => rfl) rfl ⟨rfl, h113⟩
    refine wpc_icmp (a := 190) (b := 187) rfl (by decide) rfl rfl (wpc_br (p := (16 : Int32) < m106) ⟨fun hc114 => ?_, fun hc114 => ?_⟩)
    · refine wpc_sl (n := 2) (c' := 21) (pc' := 190) (ls' := [some (.ref 0), some (.int a1), some (.int (16 : Int32))]) (st' := []) (s' := s) rfl ?_
      first | exact hm110 _ (by simp only [if_pos hc114]) | exact wpc_lle (by repeat (first | exact trivial | refine ⟨rfl, ?_⟩)) (hm110 _ (by simp only [if_pos hc114]))
    · first | exact hm110 _ (by simp only [if_neg hc114]) | exact wpc_lle (by repeat (first | exact trivial | refine ⟨rfl, ?_⟩)) (hm110 _ (by simp only [if_neg hc114]))
  refine wpc_icmp (a := 181) (b := 179) rfl (by decide) rfl rfl (wpc_br (p := a1 < (1 : Int32)) ⟨fun hc115 => ?_, fun hc115 => ?_⟩)
  · refine wpc_sl (n := 2) (c' := 21) (pc' := 181) (ls' := [some (.ref 0), some (.int a1), some (.int (1 : Int32))]) (st' := []) (s' := s) rfl ?_
    first | exact hm107 _ (by simp only [if_pos hc115]) | exact wpc_lle (by repeat (first | exact trivial | refine ⟨rfl, ?_⟩)) (hm107 _ (by simp only [if_pos hc115]))
  · first | exact hm107 _ (by simp only [if_neg hc115]) | exact wpc_lle (by repeat (first | exact trivial | refine ⟨rfl, ?_⟩)) (hm107 _ (by simp only [if_neg hc115]))
theorem c13_in (a1 : Int32) (s : St) (Q : Int32 → St → Prop) (h : ((a1 < (1 : Int32)) → Q (0 : Int32) s) ∧ (¬ (a1 < (1 : Int32)) → (((1000 : Int32) < a1) → Q (0 : Int32) s) ∧ (¬ ((1000 : Int32) < a1) → Q (1 : Int32) s))) : calI PP 13 21 [.ref 0, .int a1] s Q := by
  refine cal_of (me := cm13) (ls := [some (.ref 0), some (.int a1)]) rfl (Nat.le_of_ble_eq_true rfl) rfl ?_
  refine wpc_sl (n := 2) (c' := 21) (pc' := 2) (ls' := [some (.ref 0), some (.int a1)]) (st' := [.int (1 : Int32), .int a1]) (s' := s) rfl ?_
  refine wpc_icmp (a := 16) (b := 5) rfl (by decide) rfl rfl (wpc_br (p := a1 < (1 : Int32)) ⟨fun hc133 => ?_, fun hc133 => ?_⟩)
  · have h134 := h.1 hc133
    refine wpc_sl (n := 1) (c' := 21) (pc' := 17) (ls' := [some (.ref 0), some (.int a1)]) (st' := [.int (0 : Int32)]) (s' := s) rfl ?_
    exact wpc_ret rfl rfl (fun q => absurd q (by decide)) rfl ⟨(0 : Int32), rfl, h134⟩
  · have h135 := h.2 hc133
    refine wpc_sl (n := 2) (c' := 21) (pc' := 9) (ls' := [some (.ref 0), some (.int a1)]) (st' := [.int (1000 : Int32), .int a1]) (s' := s) rfl ?_
    refine wpc_icmp (a := 16) (b := 12) rfl (by decide) rfl rfl (wpc_br (p := (1000 : Int32) < a1) ⟨fun hc136 => ?_, fun hc136 => ?_⟩)
    · have h137 := h135.1 hc136
      refine wpc_sl (n := 1) (c' := 21) (pc' := 17) (ls' := [some (.ref 0), some (.int a1)]) (st' := [.int (0 : Int32)]) (s' := s) rfl ?_
      exact wpc_ret rfl rfl (fun q => absurd q (by decide)) rfl ⟨(0 : Int32), rfl, h137⟩
    · have h138 := h135.2 hc136
      refine wpc_sl (n := 2) (c' := 21) (pc' := 17) (ls' := [some (.ref 0), some (.int a1)]) (st' := [.int (1 : Int32)]) (s' := s) rfl ?_
      exact wpc_ret rfl rfl (fun q => absurd q (by decide)) rfl ⟨(1 : Int32), rfl, h138⟩
theorem c2_in (a1 : Int32) (a2 : Int32) (s : St) (Q : Int32 → St → Prop) (h : ((a1 < (0 : Int32)) → Q (-3 : Int32) s) ∧ (¬ (a1 < (0 : Int32)) → ((a1 < (gI s 0 40)) → calI PP 13 21 [.ref 0, .int a2] s (fun v123 s122 => ((v123 = (0 : Int32)) → Q (-2 : Int32) s122) ∧ (¬ (v123 = (0 : Int32)) → (((gI s122 0 40) < (8 : Int32)) → inb 8 (gI s122 0 40) ∧ inb 8 (gI s122 0 40) ∧ Q (gI s122 0 40) (sI (sI (sI s122 1 (ix (gI s122 0 40)) a1) 2 (ix (gI s122 0 40)) a2) 0 40 ((gI s122 0 40) + (1 : Int32)))) ∧ (¬ ((gI s122 0 40) < (8 : Int32)) → Q (-5 : Int32) s122)))) ∧ (¬ (a1 < (gI s 0 40)) → Q (-3 : Int32) s))) : calI PP 2 21 [.ref 0, .int a1, .int a2] s Q := by
  refine cal_of (me := cm2) (ls := [some (.ref 0), some (.int a1), some (.int a2), none]) rfl (Nat.le_of_ble_eq_true rfl) rfl ?_
  refine wpc_sl (n := 1) (c' := 21) (pc' := 1) (ls' := [some (.ref 0), some (.int a1), some (.int a2), none]) (st' := [.int a1]) (s' := s) rfl ?_
  refine wpc_if (a := 12) (b := 4) rfl (by decide) rfl rfl (wpc_br (p := a1 < (0 : Int32)) ⟨fun hc116 => ?_, fun hc116 => ?_⟩)
  · have h117 := h.1 hc116
    refine wpc_sl (n := 1) (c' := 21) (pc' := 14) (ls' := [some (.ref 0), some (.int a1), some (.int a2), none]) (st' := [.int (-3 : Int32)]) (s' := s) rfl ?_
    exact wpc_ret rfl rfl (fun q => absurd q (by decide)) rfl ⟨(-3 : Int32), rfl, h117⟩
  · have h118 := h.2 hc116
    refine wpc_sl (n := 3) (c' := 21) (pc' := 9) (ls' := [some (.ref 0), some (.int a1), some (.int a2), none]) (st' := [.int (gI s 0 40), .int a1]) (s' := s) rfl ?_
    refine wpc_icmp (a := 15) (b := 12) rfl (by decide) rfl rfl (wpc_br (p := a1 < (gI s 0 40)) ⟨fun hc119 => ?_, fun hc119 => ?_⟩)
    · have h120 := h118.1 hc119
      refine wpc_sl (n := 2) (c' := 21) (pc' := 17) (ls' := [some (.ref 0), some (.int a1), some (.int a2), none]) (st' := [.int a2, .ref 0]) (s' := s) rfl ?_
      refine wpc_callI (m' := 13) (me' := cm13) (as := [.int a2]) (r := []) rfl rfl rfl rfl rfl ⟨by decide, (by first | decide | exact Nat.le_of_ble_eq_true rfl), (by first | decide | exact Nat.le_of_ble_eq_true rfl), rfl⟩ (calI.mono h120 fun v123 s122 h124 => ?_)
      refine wpc_if (a := 26) (b := 23) rfl (by decide) rfl rfl (wpc_br (p := v123 = (0 : Int32)) ⟨fun hc125 => ?_, fun hc125 => ?_⟩)
      · have h126 := h124.1 hc125
        refine wpc_sl (n := 1) (c' := 21) (pc' := 25) (ls' := [some (.ref 0), some (.int a1), some (.int a2), none]) (st' := [.int (-2 : Int32)]) (s' := s122) rfl ?_
        exact wpc_ret rfl rfl (fun q => absurd q (by decide)) rfl ⟨(-2 : Int32), rfl, h126⟩
      · have h127 := h124.2 hc125
        refine wpc_sl (n := 3) (c' := 21) (pc' := 32) (ls' := [some (.ref 0), some (.int a1), some (.int a2), none]) (st' := [.int (8 : Int32), .int (gI s122 0 40)]) (s' := s122) rfl ?_
        refine wpc_icmp (a := 38) (b := 35) rfl (by decide) rfl rfl (wpc_br (p := (gI s122 0 40) < (8 : Int32)) ⟨fun hc128 => ?_, fun hc128 => ?_⟩)
        · have h129 := h127.1 hc128
          refine wpc_sl (n := 7) (c' := 21) (pc' := 49) (ls' := [some (.ref 0), some (.int a1), some (.int a2), some (.int (gI s122 0 40))]) (st' := [.int a1, .int (gI s122 0 40), .ref 1]) (s' := s122) rfl ?_
          refine wpc_staI (a := 0) (N := 8) (s' := (sI s122 1 (ix (gI s122 0 40)) a1)) rfl rfl (by decide) h129.1 rfl ?_
          have h131 := h129.2
          refine wpc_sl (n := 4) (c' := 21) (pc' := 56) (ls' := [some (.ref 0), some (.int a1), some (.int a2), some (.int (gI s122 0 40))]) (st' := [.int a2, .int (gI s122 0 40), .ref 2]) (s' := (sI s122 1 (ix (gI s122 0 40)) a1)) rfl ?_
          refine wpc_staI (a := 1) (N := 8) (s' := (sI (sI s122 1 (ix (gI s122 0 40)) a1) 2 (ix (gI s122 0 40)) a2)) rfl rfl (by decide) h131.1 rfl ?_
          have h132 := h131.2
          refine wpc_sl (n := 7) (c' := 21) (pc' := 68) (ls' := [some (.ref 0), some (.int a1), some (.int a2), some (.int (gI s122 0 40))]) (st' := [.int (gI s122 0 40)]) (s' := (sI (sI (sI s122 1 (ix (gI s122 0 40)) a1) 2 (ix (gI s122 0 40)) a2) 0 40 ((gI s122 0 40) + (1 : Int32)))) rfl ?_
          exact wpc_ret rfl rfl (fun q => absurd q (by decide)) rfl ⟨(gI s122 0 40), rfl, h132⟩
        · have h130 := h127.2 hc128
          refine wpc_sl (n := 1) (c' := 21) (pc' := 37) (ls' := [some (.ref 0), some (.int a1), some (.int a2), none]) (st' := [.int (-5 : Int32)]) (s' := s122) rfl ?_
          exact wpc_ret rfl rfl (fun q => absurd q (by decide)) rfl ⟨(-5 : Int32), rfl, h130⟩
    · have h121 := h118.2 hc119
      refine wpc_sl (n := 1) (c' := 21) (pc' := 14) (ls' := [some (.ref 0), some (.int a1), some (.int a2), none]) (st' := [.int (-3 : Int32)]) (s' := s) rfl ?_
      exact wpc_ret rfl rfl (fun q => absurd q (by decide)) rfl ⟨(-3 : Int32), rfl, h121⟩
theorem c18_in  (s : St) (Q : St → Prop) (h : wpcV PP 18 cm18 21 2 [some (.ref 0), some (.int (0 : Int32))] [] s Q) : calV PP 18 21 [.ref 0] s Q := by
  refine cal_of (me := cm18) (ls := [some (.ref 0), none]) rfl (Nat.le_of_ble_eq_true rfl) rfl ?_
  refine wpc_sl (n := 2) (c' := 21) (pc' := 2) (ls' := [some (.ref 0), some (.int (0 : Int32))]) (st' := []) (s' := s) rfl ?_
  exact h
theorem c18_2 (x1 : Int32) (s : St) (Q : St → Prop) (h : ((x1 < (16 : Int32)) → ((x1 < (gI s 0 41)) → inb 16 x1 ∧ ∀ m178, m178 = (if (gI s 5 (ix x1)) = (1 : Int32) then (1 : Int32) else (0 : Int32)) → (inb 16 x1 ∧ wpcV PP 18 cm18 21 2 [some (.ref 0), some (.int (x1 + (1 : Int32)))] [] (sI s 21 (ix x1) (m178 &&& 1)) Q)) ∧ (¬ (x1 < (gI s 0 41)) → inb 16 x1 ∧ wpcV PP 18 cm18 21 2 [some (.ref 0), some (.int (x1 + (1 : Int32)))] [] (sI s 21 (ix x1) (0 : Int32)) Q)) ∧ (¬ (x1 < (16 : Int32)) → Q s)) : wpcV PP 18 cm18 21 2 [some (.ref 0), some (.int x1)] [] s Q := by
  refine wpc_sl (n := 2) (c' := 21) (pc' := 5) (ls' := [some (.ref 0), some (.int x1)]) (st' := [.int (16 : Int32), .int x1]) (s' := s) rfl ?_
  refine wpc_icmp (a := 43) (b := 8) rfl (by decide) rfl rfl (wpc_br (p := x1 < (16 : Int32)) ⟨fun hc171 => ?_, fun hc171 => ?_⟩)
  · have h172 := h.1 hc171
    refine wpc_sl (n := 6) (c' := 21) (pc' := 18) (ls' := [some (.ref 0), some (.int x1)]) (st' := [.int (gI s 0 41), .int x1, .int x1, .ref 21]) (s' := s) rfl ?_
    refine wpc_icmp (a := 35) (b := 21) rfl (by decide) rfl rfl (wpc_br (p := x1 < (gI s 0 41)) ⟨fun hc174 => ?_, fun hc174 => ?_⟩)
    · have h175 := h172.1 hc174
      refine wpc_sl (n := 3) (c' := 21) (pc' := 26) (ls' := [some (.ref 0), some (.int x1)]) (st' := [.int x1, .ref 5, .int x1, .ref 21]) (s' := s) rfl ?_
      refine wpc_ldaI (a := 4) (N := 16) (v := (gI s 5 (ix x1))) rfl rfl (by decide) h175.1 rfl ?_
      have h177 := h175.2
      refine wpc_sl (n := 1) (c' := 21) (pc' := 28) (ls' := [some (.ref 0), some (.int x1)]) (st' := [.int (1 : Int32), .int (gI s 5 (ix x1)), .int x1, .ref 21]) (s' := s) rfl ?_
      have hm179 : ∀ m178, m178 = (if (gI s 5 (ix x1)) = (1 : Int32) then (1 : Int32) else (0 : Int32)) → wpcV PP 18 cm18 21 36 [some (.ref 0), some (.int x1)] [.int m178, .int x1, .ref 21] s Q := by
        intro m178 em178
        have h180 := h177 m178 em178
        refine wpc_staZ (a := 20) (N := 16) (s' := (sI s 21 (ix x1) (m178 &&& 1))) rfl rfl (by decide) h180.1 rfl ?_
        have h181 := h180.2
        refine wpc_sl (n := 2) (c' := 21) (pc' := 2) (ls' := [some (.ref 0), some (.int (x1 + (1 : Int32)))]) (st' := []) (s' := (sI s 21 (ix x1) (m178 &&& 1))) rfl ?_
        exact h181
      refine wpc_icmp (a := 35) (b := 31) rfl (by decide) rfl rfl (wpc_br (p := (gI s 5 (ix x1)) = (1 : Int32)) ⟨fun hc182 => ?_, fun hc182 => ?_⟩)
      · refine wpc_sl (n := 2) (c' := 21) (pc' := 36) (ls' := [some (.ref 0), some (.int x1)]) (st' := [.int (1 : Int32), .int x1, .ref 21]) (s' := s) rfl ?_
        first | exact hm179 _ (by simp only [if_pos hc182]) | exact wpc_lle (by repeat (first | exact trivial | refine ⟨rfl, ?_⟩)) (hm179 _ (by simp only [if_pos hc182]))
      · refine wpc_sl (n := 1) (c' := 21) (pc' := 36) (ls' := [some (.ref 0), some (.int x1)]) (st' := [.int (0 : Int32), .int x1, .ref 21]) (s' := s) rfl ?_
        first | exact hm179 _ (by simp only [if_neg hc182]) | exact wpc_lle (by repeat (first | exact trivial | refine ⟨rfl, ?_⟩)) (hm179 _ (by simp only [if_neg hc182]))
    · have h176 := h172.2 hc174
      refine wpc_sl (n := 1) (c' := 21) (pc' := 36) (ls' := [some (.ref 0), some (.int x1)]) (st' := [.int (0 : Int32), .int x1, .ref 21]) (s' := s) rfl ?_
      refine wpc_staZ (a := 20) (N := 16) (s' := (sI s 21 (ix x1) (0 : Int32))) rfl rfl (by decide) h176.1 rfl ?_
      have h183 := h176.2
      refine wpc_sl (n := 2) (c' := 21) (pc' := 2) (ls' := [some (.ref 0), some (.int (x1 + (1 : Int32)))]) (st' := []) (s' := (sI s 21 (ix x1) (0 : Int32))) rfl ?_
      exact h183
  · have h173 := h.2 hc171
    exact wpc_ret rfl rfl (fun q => absurd q (by decide)) rfl ⟨rfl, h173⟩
theorem c20_in (a1 : Int32) (s : St) (Q : Int32 → St → Prop) (h : wpcI PP 20 cm20 21 4 [some (.ref 0), none, some (.int a1), some (.int (0 : Int32)), none] [] s Q) : calI PP 20 21 [.ref 0, .int a1] s Q := by
  refine cal_of (me := cm20) (ls := [some (.ref 0), some (.int a1), none, none, none]) rfl (Nat.le_of_ble_eq_true rfl) rfl ?_
  refine wpc_sl (n := 4) (c' := 21) (pc' := 4) (ls' := [some (.ref 0), some (.int a1), some (.int a1), some (.int (0 : Int32)), none]) (st' := []) (s' := s) rfl ?_
  exact wpc_lle (ls := [some (.ref 0), none, some (.int a1), some (.int (0 : Int32)), none]) ⟨rfl, rfl, rfl, trivial⟩ h
theorem c20_4 (x2 : Int32) (x3 : Int32) (s : St) (Q : Int32 → St → Prop) (h : ((x3 < (16 : Int32)) → inb 16 x2 ∧ (((gI s 5 (ix x2)) = (2 : Int32)) → inb 16 x2 ∧ (((gI s 8 (ix x2)) < (0 : Int32)) → Q x2 s) ∧ (¬ ((gI s 8 (ix x2)) < (0 : Int32)) → (((gI s 8 (ix x2)) < (gI s 0 41)) → (((gI s 8 (ix x2)) < (16 : Int32)) → wpcI PP 20 cm20 21 4 [some (.ref 0), none, some (.int (gI s 8 (ix x2))), some (.int (x3 + (1 : Int32))), none] [] s Q) ∧ (¬ ((gI s 8 (ix x2)) < (16 : Int32)) → Q x2 s)) ∧ (¬ ((gI s 8 (ix x2)) < (gI s 0 41)) → Q x2 s))) ∧ (¬ ((gI s 5 (ix x2)) = (2 : Int32)) → Q x2 s)) ∧ (¬ (x3 < (16 : Int32)) → Q x2 s)) : wpcI PP 20 cm20 21 4 [some (.ref 0), none, some (.int x2), some (.int x3), none] [] s Q := by
  refine wpc_sl (n := 2) (c' := 21) (pc' := 7) (ls' := [some (.ref 0), none, some (.int x2), some (.int x3), none]) (st' := [.int (16 : Int32), .int x3]) (s' := s) rfl ?_
  refine wpc_icmp (a := 64) (b := 10) rfl (by decide) rfl rfl (wpc_br (p := x3 < (16 : Int32)) ⟨fun hc241 => ?_, fun hc241 => ?_⟩)
  · have h242 := h.1 hc241
    refine wpc_sl (n := 3) (c' := 21) (pc' := 15) (ls' := [some (.ref 0), none, some (.int x2), some (.int x3), none]) (st' := [.int x2, .ref 5]) (s' := s) rfl ?_
    refine wpc_ldaI (a := 4) (N := 16) (v := (gI s 5 (ix x2))) rfl rfl (by decide) h242.1 rfl ?_
    have h244 := h242.2
    refine wpc_sl (n := 1) (c' := 21) (pc' := 17) (ls' := [some (.ref 0), none, some (.int x2), some (.int x3), none]) (st' := [.int (2 : Int32), .int (gI s 5 (ix x2))]) (s' := s) rfl ?_
    refine wpc_icmp (a := 23) (b := 20) rfl (by decide) rfl rfl (wpc_br (p := (gI s 5 (ix x2)) = (2 : Int32)) ⟨fun hc245 => ?_, fun hc245 => ?_⟩)
    · have h246 := h244.1 hc245
      refine wpc_sl (n := 3) (c' := 21) (pc' := 28) (ls' := [some (.ref 0), none, some (.int x2), some (.int x3), none]) (st' := [.int x2, .ref 8]) (s' := s) rfl ?_
      refine wpc_ldaI (a := 7) (N := 16) (v := (gI s 8 (ix x2))) rfl rfl (by decide) h246.1 rfl ?_
      have h248 := h246.2
      refine wpc_sl (n := 2) (c' := 21) (pc' := 33) (ls' := [some (.ref 0), none, some (.int x2), some (.int x3), some (.int (gI s 8 (ix x2)))]) (st' := [.int (gI s 8 (ix x2))]) (s' := s) rfl ?_
      refine wpc_if (a := 64) (b := 36) rfl (by decide) rfl rfl (wpc_br (p := (gI s 8 (ix x2)) < (0 : Int32)) ⟨fun hc249 => ?_, fun hc249 => ?_⟩)
      · have h250 := h248.1 hc249
        refine wpc_sl (n := 1) (c' := 21) (pc' := 65) (ls' := [some (.ref 0), none, some (.int x2), some (.int x3), some (.int (gI s 8 (ix x2)))]) (st' := [.int x2]) (s' := s) rfl ?_
        exact wpc_ret rfl rfl (fun q => absurd q (by decide)) rfl ⟨x2, rfl, h250⟩
      · have h251 := h248.2 hc249
        refine wpc_sl (n := 3) (c' := 21) (pc' := 42) (ls' := [some (.ref 0), none, some (.int x2), some (.int x3), some (.int (gI s 8 (ix x2)))]) (st' := [.int (gI s 0 41), .int (gI s 8 (ix x2))]) (s' := s) rfl ?_
        refine wpc_icmp (a := 64) (b := 45) rfl (by decide) rfl rfl (wpc_br (p := (gI s 8 (ix x2)) < (gI s 0 41)) ⟨fun hc252 => ?_, fun hc252 => ?_⟩)
        · have h253 := h251.1 hc252
          refine wpc_sl (n := 2) (c' := 21) (pc' := 49) (ls' := [some (.ref 0), none, some (.int x2), some (.int x3), some (.int (gI s 8 (ix x2)))]) (st' := [.int (16 : Int32), .int (gI s 8 (ix x2))]) (s' := s) rfl ?_
          refine wpc_icmp (a := 55) (b := 52) rfl (by decide) rfl rfl (wpc_br (p := (gI s 8 (ix x2)) < (16 : Int32)) ⟨fun hc255 => ?_, fun hc255 => ?_⟩)
          · have h256 := h253.1 hc255
            refine wpc_sl (n := 4) (c' := 21) (pc' := 4) (ls' := [some (.ref 0), none, some (.int (gI s 8 (ix x2))), some (.int (x3 + (1 : Int32))), some (.int (gI s 8 (ix x2)))]) (st' := []) (s' := s) rfl ?_
            exact wpc_lle (ls := [some (.ref 0), none, some (.int (gI s 8 (ix x2))), some (.int (x3 + (1 : Int32))), none]) ⟨rfl, rfl, rfl, trivial⟩ h256
          · have h257 := h253.2 hc255
            refine wpc_sl (n := 2) (c' := 21) (pc' := 65) (ls' := [some (.ref 0), none, some (.int x2), some (.int x3), some (.int (gI s 8 (ix x2)))]) (st' := [.int x2]) (s' := s) rfl ?_
            exact wpc_ret rfl rfl (fun q => absurd q (by decide)) rfl ⟨x2, rfl, h257⟩
        · have h254 := h251.2 hc252
          refine wpc_sl (n := 1) (c' := 21) (pc' := 65) (ls' := [some (.ref 0), none, some (.int x2), some (.int x3), some (.int (gI s 8 (ix x2)))]) (st' := [.int x2]) (s' := s) rfl ?_
          exact wpc_ret rfl rfl (fun q => absurd q (by decide)) rfl ⟨x2, rfl, h254⟩
    · have h247 := h244.2 hc245
      refine wpc_sl (n := 2) (c' := 21) (pc' := 65) (ls' := [some (.ref 0), none, some (.int x2), some (.int x3), none]) (st' := [.int x2]) (s' := s) rfl ?_
      exact wpc_ret rfl rfl (fun q => absurd q (by decide)) rfl ⟨x2, rfl, h247⟩
  · have h243 := h.2 hc241
    refine wpc_sl (n := 1) (c' := 21) (pc' := 65) (ls' := [some (.ref 0), none, some (.int x2), some (.int x3), none]) (st' := [.int x2]) (s' := s) rfl ?_
    exact wpc_ret rfl rfl (fun q => absurd q (by decide)) rfl ⟨x2, rfl, h243⟩
theorem c21_in  (s : St) (Q : St → Prop) (h : wpcV PP 21 cm21 21 2 [some (.ref 0), some (.int (0 : Int32)), none] [] s Q) : calV PP 21 21 [.ref 0] s Q := by
  refine cal_of (me := cm21) (ls := [some (.ref 0), none, none]) rfl (Nat.le_of_ble_eq_true rfl) rfl ?_
  refine wpc_sl (n := 2) (c' := 21) (pc' := 2) (ls' := [some (.ref 0), some (.int (0 : Int32)), none]) (st' := []) (s' := s) rfl ?_
  exact h
theorem c21_2 (x1 : Int32) (s : St) (Q : St → Prop) (h : ((x1 < (16 : Int32)) → ((x1 < (gI s 0 41)) → calI PP 20 21 [.ref 0, .int x1] s (fun v225 s224 => inb 16 x1 ∧ inb 16 x1 ∧ (((gI s224 5 (ix x1)) = (3 : Int32)) → inb 16 x1 ∧ wpcV PP 21 cm21 21 77 [some (.ref 0), some (.int x1), none] [] (sI (sI s224 16 (ix x1) v225) 17 (ix x1) (0 : Int32)) Q) ∧ (¬ ((gI s224 5 (ix x1)) = (3 : Int32)) → inb 16 v225 ∧ ∀ m234, m234 = (if (gI s224 5 (ix v225)) = (1 : Int32) then (1 : Int32) else (0 : Int32)) → (inb 16 x1 ∧ wpcV PP 21 cm21 21 77 [some (.ref 0), some (.int x1), none] [] (sI (sI s224 16 (ix x1) v225) 17 (ix x1) (m234 &&& 1)) Q)))) ∧ (¬ (x1 < (gI s 0 41)) → inb 16 x1 ∧ inb 16 x1 ∧ wpcV PP 21 cm21 21 77 [some (.ref 0), some (.int x1), none] [] (sI (sI s 16 (ix x1) x1) 17 (ix x1) (0 : Int32)) Q)) ∧ (¬ (x1 < (16 : Int32)) → Q s)) : wpcV PP 21 cm21 21 2 [some (.ref 0), some (.int x1), none] [] s Q := by
  refine wpc_sl (n := 2) (c' := 21) (pc' := 5) (ls' := [some (.ref 0), some (.int x1), none]) (st' := [.int (16 : Int32), .int x1]) (s' := s) rfl ?_
  refine wpc_icmp (a := 83) (b := 8) rfl (by decide) rfl rfl (wpc_br (p := x1 < (16 : Int32)) ⟨fun hc218 => ?_, fun hc218 => ?_⟩)
  · have h219 := h.1 hc218
    refine wpc_sl (n := 3) (c' := 21) (pc' := 13) (ls' := [some (.ref 0), some (.int x1), none]) (st' := [.int (gI s 0 41), .int x1]) (s' := s) rfl ?_
    refine wpc_icmp (a := 63) (b := 16) rfl (by decide) rfl rfl (wpc_br (p := x1 < (gI s 0 41)) ⟨fun hc221 => ?_, fun hc221 => ?_⟩)
    · have h222 := h219.1 hc221
      refine wpc_sl (n := 2) (c' := 21) (pc' := 18) (ls' := [some (.ref 0), some (.int x1), none]) (st' := [.int x1, .ref 0]) (s' := s) rfl ?_
      refine wpc_callI (m' := 20) (me' := cm20) (as := [.int x1]) (r := []) rfl rfl rfl rfl rfl ⟨by decide, (by first | decide | exact Nat.le_of_ble_eq_true rfl), (by first | decide | exact Nat.le_of_ble_eq_true rfl), rfl⟩ (calI.mono h222 fun v225 s224 h226 => ?_)
      refine wpc_sl (n := 5) (c' := 21) (pc' := 28) (ls' := [some (.ref 0), some (.int x1), some (.int v225)]) (st' := [.int v225, .int x1, .ref 16]) (s' := s224) rfl ?_
      refine wpc_staI (a := 15) (N := 16) (s' := (sI s224 16 (ix x1) v225)) rfl rfl (by decide) h226.1 rfl ?_
      have h227 := h226.2
      refine wpc_sl (n := 6) (c' := 21) (pc' := 39) (ls' := [some (.ref 0), some (.int x1), some (.int v225)]) (st' := [.int x1, .ref 5, .int x1, .ref 17]) (s' := (sI s224 16 (ix x1) v225)) rfl ?_
      refine wpc_ldaI (a := 4) (N := 16) (v := (gI s224 5 (ix x1))) rfl rfl (by decide) h227.1 rfl ?_
      have h228 := h227.2
      refine wpc_sl (n := 1) (c' := 21) (pc' := 41) (ls' := [some (.ref 0), some (.int x1), some (.int v225)]) (st' := [.int (3 : Int32), .int (gI s224 5 (ix x1)), .int x1, .ref 17]) (s' := (sI s224 16 (ix x1) v225)) rfl ?_
      refine wpc_icmp (a := 58) (b := 44) rfl (by decide) rfl rfl (wpc_br (p := (gI s224 5 (ix x1)) = (3 : Int32)) ⟨fun hc229 => ?_, fun hc229 => ?_⟩)
      · have h230 := h228.1 hc229
        refine wpc_sl (n := 1) (c' := 21) (pc' := 59) (ls' := [some (.ref 0), some (.int x1), some (.int v225)]) (st' := [.int (0 : Int32), .int x1, .ref 17]) (s' := (sI s224 16 (ix x1) v225)) rfl ?_
        refine wpc_staZ (a := 16) (N := 16) (s' := (sI (sI s224 16 (ix x1) v225) 17 (ix x1) (0 : Int32))) rfl rfl (by decide) h230.1 rfl ?_
        have h232 := h230.2
        refine wpc_sl (n := 1) (c' := 21) (pc' := 77) (ls' := [some (.ref 0), some (.int x1), some (.int v225)]) (st' := []) (s' := (sI (sI s224 16 (ix x1) v225) 17 (ix x1) (0 : Int32))) rfl ?_
        exact wpc_lle (ls := [some (.ref 0), some (.int x1), none]) ⟨rfl, rfl, trivial⟩ h232
      · have h231 := h228.2 hc229
        refine wpc_sl (n := 3) (c' := 21) (pc' := 49) (ls' := [some (.ref 0), some (.int x1), some (.int v225)]) (st' := [.int v225, .ref 5, .int x1, .ref 17]) (s' := (sI s224 16 (ix x1) v225)) rfl ?_
        refine wpc_ldaI (a := 4) (N := 16) (v := (gI s224 5 (ix v225))) rfl rfl (by decide) h231.1 rfl ?_
        have h233 := h231.2
        refine wpc_sl (n := 1) (c' := 21) (pc' := 51) (ls' := [some (.ref 0), some (.int x1), some (.int v225)]) (st' := [.int (1 : Int32), .int (gI s224 5 (ix v225)), .int x1, .ref 17]) (s' := (sI s224 16 (ix x1) v225)) rfl ?_
        have hm235 : ∀ m234, m234 = (if (gI s224 5 (ix v225)) = (1 : Int32) then (1 : Int32) else (0 : Int32)) → wpcV PP 21 cm21 21 59 [some (.ref 0), some (.int x1), some (.int v225)] [.int m234, .int x1, .ref 17] (sI s224 16 (ix x1) v225) Q := by
          intro m234 em234
          have h236 := h233 m234 em234
          refine wpc_staZ (a := 16) (N := 16) (s' := (sI (sI s224 16 (ix x1) v225) 17 (ix x1) (m234 &&& 1))) rfl rfl (by decide) h236.1 rfl ?_
          have h237 := h236.2
          refine wpc_sl (n := 1) (c' := 21) (pc' := 77) (ls' := [some (.ref 0), some (.int x1), some (.int v225)]) (st' := []) (s' := (sI (sI s224 16 (ix x1) v225) 17 (ix x1) (m234 &&& 1))) rfl ?_
          exact wpc_lle (ls := [some (.ref 0), some (.int x1), none]) ⟨rfl, rfl, trivial⟩ h237
        refine wpc_icmp (a := 58) (b := 54) rfl (by decide) rfl rfl (wpc_br (p := (gI s224 5 (ix v225)) = (1 : Int32)) ⟨fun hc238 => ?_, fun hc238 => ?_⟩)
        · refine wpc_sl (n := 2) (c' := 21) (pc' := 59) (ls' := [some (.ref 0), some (.int x1), some (.int v225)]) (st' := [.int (1 : Int32), .int x1, .ref 17]) (s' := (sI s224 16 (ix x1) v225)) rfl ?_
          first | exact hm235 _ (by simp only [if_pos hc238]) | exact wpc_lle (by repeat (first | exact trivial | refine ⟨rfl, ?_⟩)) (hm235 _ (by simp only [if_pos hc238]))
        · refine wpc_sl (n := 1) (c' := 21) (pc' := 59) (ls' := [some (.ref 0), some (.int x1), some (.int v225)]) (st' := [.int (0 : Int32), .int x1, .ref 17]) (s' := (sI s224 16 (ix x1) v225)) rfl ?_
          first | exact hm235 _ (by simp only [if_neg hc238]) | exact wpc_lle (by repeat (first | exact trivial | refine ⟨rfl, ?_⟩)) (hm235 _ (by simp only [if_neg hc238]))
    · have h223 := h219.2 hc221
      refine wpc_sl (n := 4) (c' := 21) (pc' := 69) (ls' := [some (.ref 0), some (.int x1), none]) (st' := [.int x1, .int x1, .ref 16]) (s' := s) rfl ?_
      refine wpc_staI (a := 15) (N := 16) (s' := (sI s 16 (ix x1) x1)) rfl rfl (by decide) h223.1 rfl ?_
      have h239 := h223.2
      refine wpc_sl (n := 4) (c' := 21) (pc' := 76) (ls' := [some (.ref 0), some (.int x1), none]) (st' := [.int (0 : Int32), .int x1, .ref 17]) (s' := (sI s 16 (ix x1) x1)) rfl ?_
      refine wpc_staZ (a := 16) (N := 16) (s' := (sI (sI s 16 (ix x1) x1) 17 (ix x1) (0 : Int32))) rfl rfl (by decide) h239.1 rfl ?_
      have h240 := h239.2
      exact h240
  · have h220 := h.2 hc218
    exact wpc_ret rfl rfl (fun q => absurd q (by decide)) rfl ⟨rfl, h220⟩
theorem c21_77 (x1 : Int32) (s : St) (Q : St → Prop) (h : wpcV PP 21 cm21 21 2 [some (.ref 0), some (.int (x1 + (1 : Int32))), none] [] s Q) : wpcV PP 21 cm21 21 77 [some (.ref 0), some (.int x1), none] [] s Q := by
  refine wpc_sl (n := 2) (c' := 21) (pc' := 2) (ls' := [some (.ref 0), some (.int (x1 + (1 : Int32))), none]) (st' := []) (s' := s) rfl ?_
  exact h
theorem c22_in  (s : St) (Q : St → Prop) (h : wpcV PP 22 cm22 21 3 [some (.ref 0), some (.int (7 : Int32)), none, none, none] [] s Q) : calV PP 22 21 [.ref 0] s Q := by
  refine cal_of (me := cm22) (ls := [some (.ref 0), none, none, none, none]) rfl (Nat.le_of_ble_eq_true rfl) rfl ?_
  refine wpc_sl (n := 2) (c' := 21) (pc' := 3) (ls' := [some (.ref 0), some (.int (7 : Int32)), none, none, none]) (st' := []) (s' := s) rfl ?_
  exact h
theorem c22_3 (x1 : Int32) (s : St) (Q : St → Prop) (h : ((x1 < (0 : Int32)) → Q s) ∧ (¬ (x1 < (0 : Int32)) → ((x1 < (gI s 0 40)) → wpcV PP 22 cm22 21 30 [some (.ref 0), some (.int x1), some (.long (0 : Int64)), none, some (.int (0 : Int32))] [] s Q) ∧ (¬ (x1 < (gI s 0 40)) → inb 8 x1 ∧ wpcV PP 22 cm22 21 143 [some (.ref 0), some (.int x1), none, none, none] [] (sL s 3 (ix x1) (0 : Int64)) Q))) : wpcV PP 22 cm22 21 3 [some (.ref 0), some (.int x1), none, none, none] [] s Q := by
  refine wpc_sl (n := 1) (c' := 21) (pc' := 4) (ls' := [some (.ref 0), some (.int x1), none, none, none]) (st' := [.int x1]) (s' := s) rfl ?_
  refine wpc_if (a := 149) (b := 7) rfl (by decide) rfl rfl (wpc_br (p := x1 < (0 : Int32)) ⟨fun hc258 => ?_, fun hc258 => ?_⟩)
  · have h259 := h.1 hc258
    exact wpc_ret rfl rfl (fun q => absurd q (by decide)) rfl ⟨rfl, h259⟩
  · have h260 := h.2 hc258
    refine wpc_sl (n := 3) (c' := 21) (pc' := 12) (ls' := [some (.ref 0), some (.int x1), none, none, none]) (st' := [.int (gI s 0 40), .int x1]) (s' := s) rfl ?_
    refine wpc_icmp (a := 25) (b := 15) rfl (by decide) rfl rfl (wpc_br (p := x1 < (gI s 0 40)) ⟨fun hc261 => ?_, fun hc261 => ?_⟩)
    · have h262 := h260.1 hc261
      refine wpc_sl (n := 4) (c' := 21) (pc' := 30) (ls' := [some (.ref 0), some (.int x1), some (.long (0 : Int64)), none, some (.int (0 : Int32))]) (st' := []) (s' := s) rfl ?_
      exact h262
    · have h263 := h260.2 hc261
      refine wpc_sl (n := 4) (c' := 21) (pc' := 21) (ls' := [some (.ref 0), some (.int x1), none, none, none]) (st' := [.long (0 : Int64), .int x1, .ref 3]) (s' := s) rfl ?_
      refine wpc_staJ (a := 2) (N := 8) (s' := (sL s 3 (ix x1) (0 : Int64))) rfl rfl (by decide) h263.1 rfl ?_
      have h264 := h263.2
      refine wpc_sl (n := 1) (c' := 21) (pc' := 143) (ls' := [some (.ref 0), some (.int x1), none, none, none]) (st' := []) (s' := (sL s 3 (ix x1) (0 : Int64))) rfl ?_
      exact h264
theorem c22_30 (x1 : Int32) (x2 : Int64) (x4 : Int32) (s : St) (Q : St → Prop) (h : ((x4 < (16 : Int32)) → inb 16 x4 ∧ (((gI s 17 (ix x4)) = (0 : Int32)) → wpcV PP 22 cm22 21 69 [some (.ref 0), some (.int x1), some (.long x2), none, some (.int x4)] [] s Q) ∧ (¬ ((gI s 17 (ix x4)) = (0 : Int32)) → inb 16 x4 ∧ (((gI s 6 (ix x4)) = x1) → inb 16 x4 ∧ wpcV PP 22 cm22 21 69 [some (.ref 0), some (.int x1), some (.long (x2 + (Int32.toInt64 (gI s 7 (ix x4))))), none, some (.int x4)] [] s Q) ∧ (¬ ((gI s 6 (ix x4)) = x1) → wpcV PP 22 cm22 21 69 [some (.ref 0), some (.int x1), some (.long x2), none, some (.int x4)] [] s Q))) ∧ (¬ (x4 < (16 : Int32)) → wpcV PP 22 cm22 21 80 [some (.ref 0), some (.int x1), some (.long x2), none, some (.int (x1 + (1 : Int32)))] [] s Q)) : wpcV PP 22 cm22 21 30 [some (.ref 0), some (.int x1), some (.long x2), none, some (.int x4)] [] s Q := by
  refine wpc_sl (n := 2) (c' := 21) (pc' := 34) (ls' := [some (.ref 0), some (.int x1), some (.long x2), none, some (.int x4)]) (st' := [.int (16 : Int32), .int x4]) (s' := s) rfl ?_
  refine wpc_icmp (a := 75) (b := 37) rfl (by decide) rfl rfl (wpc_br (p := x4 < (16 : Int32)) ⟨fun hc265 => ?_, fun hc265 => ?_⟩)
  · have h266 := h.1 hc265
    refine wpc_sl (n := 3) (c' := 21) (pc' := 43) (ls' := [some (.ref 0), some (.int x1), some (.long x2), none, some (.int x4)]) (st' := [.int x4, .ref 17]) (s' := s) rfl ?_
    refine wpc_ldaZ (a := 16) (N := 16) (v := (gI s 17 (ix x4))) rfl rfl (by decide) h266.1 rfl ?_
    have h268 := h266.2
    refine wpc_if (a := 69) (b := 47) rfl (by decide) rfl rfl (wpc_br (p := (gI s 17 (ix x4)) = (0 : Int32)) ⟨fun hc269 => ?_, fun hc269 => ?_⟩)
    · have h270 := h268.1 hc269
      exact h270
    · have h271 := h268.2 hc269
      refine wpc_sl (n := 3) (c' := 21) (pc' := 53) (ls' := [some (.ref 0), some (.int x1), some (.long x2), none, some (.int x4)]) (st' := [.int x4, .ref 6]) (s' := s) rfl ?_
      refine wpc_ldaI (a := 5) (N := 16) (v := (gI s 6 (ix x4))) rfl rfl (by decide) h271.1 rfl ?_
      have h272 := h271.2
      refine wpc_sl (n := 1) (c' := 21) (pc' := 55) (ls' := [some (.ref 0), some (.int x1), some (.long x2), none, some (.int x4)]) (st' := [.int x1, .int (gI s 6 (ix x4))]) (s' := s) rfl ?_
      refine wpc_icmp (a := 69) (b := 58) rfl (by decide) rfl rfl (wpc_br (p := (gI s 6 (ix x4)) = x1) ⟨fun hc273 => ?_, fun hc273 => ?_⟩)
      · have h274 := h272.1 hc273
        refine wpc_sl (n := 4) (c' := 21) (pc' := 65) (ls' := [some (.ref 0), some (.int x1), some (.long x2), none, some (.int x4)]) (st' := [.int x4, .ref 7, .long x2]) (s' := s) rfl ?_
        refine wpc_ldaI (a := 6) (N := 16) (v := (gI s 7 (ix x4))) rfl rfl (by decide) h274.1 rfl ?_
        have h276 := h274.2
        refine wpc_sl (n := 3) (c' := 21) (pc' := 69) (ls' := [some (.ref 0), some (.int x1), some (.long (x2 + (Int32.toInt64 (gI s 7 (ix x4))))), none, some (.int x4)]) (st' := []) (s' := s) rfl ?_
        exact h276
      · have h275 := h272.2 hc273
        exact h275
  · have h267 := h.2 hc265
    refine wpc_sl (n := 4) (c' := 21) (pc' := 80) (ls' := [some (.ref 0), some (.int x1), some (.long x2), none, some (.int (x1 + (1 : Int32)))]) (st' := []) (s' := s) rfl ?_
    exact h267
theorem c22_143 (x1 : Int32) (s : St) (Q : St → Prop) (h : wpcV PP 22 cm22 21 3 [some (.ref 0), some (.int (x1 + (-1 : Int32))), none, none, none] [] s Q) : wpcV PP 22 cm22 21 143 [some (.ref 0), some (.int x1), none, none, none] [] s Q := by
  refine wpc_sl (n := 2) (c' := 21) (pc' := 3) (ls' := [some (.ref 0), some (.int (x1 + (-1 : Int32))), none, none, none]) (st' := []) (s' := s) rfl ?_
  exact h
theorem c22_69 (x1 : Int32) (x2 : Int64) (x4 : Int32) (s : St) (Q : St → Prop) (h : wpcV PP 22 cm22 21 30 [some (.ref 0), some (.int x1), some (.long x2), none, some (.int (x4 + (1 : Int32)))] [] s Q) : wpcV PP 22 cm22 21 69 [some (.ref 0), some (.int x1), some (.long x2), none, some (.int x4)] [] s Q := by
  refine wpc_sl (n := 2) (c' := 21) (pc' := 30) (ls' := [some (.ref 0), some (.int x1), some (.long x2), none, some (.int (x4 + (1 : Int32)))]) (st' := []) (s' := s) rfl ?_
  exact h
theorem c22_80 (x1 : Int32) (x2 : Int64) (x4 : Int32) (s : St) (Q : St → Prop) (h : ((x4 < (8 : Int32)) → ((x4 < (gI s 0 40)) → inb 8 x4 ∧ (((gI s 1 (ix x4)) = x1) → inb 8 x4 ∧ (((0 : Int32) < (XT.cmpL (gL s 3 (ix x4)) (0 : Int64))) → inb 8 x4 ∧ wpcV PP 22 cm22 21 130 [some (.ref 0), some (.int x1), some (.long (x2 + (Int32.toInt64 (gI s 2 (ix x4))))), none, some (.int x4)] [] s Q) ∧ (¬ ((0 : Int32) < (XT.cmpL (gL s 3 (ix x4)) (0 : Int64))) → wpcV PP 22 cm22 21 130 [some (.ref 0), some (.int x1), some (.long x2), none, some (.int x4)] [] s Q)) ∧ (¬ ((gI s 1 (ix x4)) = x1) → wpcV PP 22 cm22 21 130 [some (.ref 0), some (.int x1), some (.long x2), none, some (.int x4)] [] s Q)) ∧ (¬ (x4 < (gI s 0 40)) → wpcV PP 22 cm22 21 130 [some (.ref 0), some (.int x1), some (.long x2), none, some (.int x4)] [] s Q)) ∧ (¬ (x4 < (8 : Int32)) → inb 8 x1 ∧ wpcV PP 22 cm22 21 143 [some (.ref 0), some (.int x1), none, none, none] [] (sL s 3 (ix x1) x2) Q)) : wpcV PP 22 cm22 21 80 [some (.ref 0), some (.int x1), some (.long x2), none, some (.int x4)] [] s Q := by
  refine wpc_sl (n := 2) (c' := 21) (pc' := 84) (ls' := [some (.ref 0), some (.int x1), some (.long x2), none, some (.int x4)]) (st' := [.int (8 : Int32), .int x4]) (s' := s) rfl ?_
  refine wpc_icmp (a := 136) (b := 87) rfl (by decide) rfl rfl (wpc_br (p := x4 < (8 : Int32)) ⟨fun hc277 => ?_, fun hc277 => ?_⟩)
  · have h278 := h.1 hc277
    refine wpc_sl (n := 3) (c' := 21) (pc' := 93) (ls' := [some (.ref 0), some (.int x1), some (.long x2), none, some (.int x4)]) (st' := [.int (gI s 0 40), .int x4]) (s' := s) rfl ?_
    refine wpc_icmp (a := 130) (b := 96) rfl (by decide) rfl rfl (wpc_br (p := x4 < (gI s 0 40)) ⟨fun hc280 => ?_, fun hc280 => ?_⟩)
    · have h281 := h278.1 hc280
      refine wpc_sl (n := 3) (c' := 21) (pc' := 102) (ls' := [some (.ref 0), some (.int x1), some (.long x2), none, some (.int x4)]) (st' := [.int x4, .ref 1]) (s' := s) rfl ?_
      refine wpc_ldaI (a := 0) (N := 8) (v := (gI s 1 (ix x4))) rfl rfl (by decide) h281.1 rfl ?_
      have h283 := h281.2
      refine wpc_sl (n := 1) (c' := 21) (pc' := 104) (ls' := [some (.ref 0), some (.int x1), some (.long x2), none, some (.int x4)]) (st' := [.int x1, .int (gI s 1 (ix x4))]) (s' := s) rfl ?_
      refine wpc_icmp (a := 130) (b := 107) rfl (by decide) rfl rfl (wpc_br (p := (gI s 1 (ix x4)) = x1) ⟨fun hc284 => ?_, fun hc284 => ?_⟩)
      · have h285 := h283.1 hc284
        refine wpc_sl (n := 3) (c' := 21) (pc' := 113) (ls' := [some (.ref 0), some (.int x1), some (.long x2), none, some (.int x4)]) (st' := [.int x4, .ref 3]) (s' := s) rfl ?_
        refine wpc_ldaJ (a := 2) (N := 8) (v := (gL s 3 (ix x4))) rfl rfl (by decide) h285.1 rfl ?_
        have h287 := h285.2
        refine wpc_sl (n := 2) (c' := 21) (pc' := 116) (ls' := [some (.ref 0), some (.int x1), some (.long x2), none, some (.int x4)]) (st' := [.int (XT.cmpL (gL s 3 (ix x4)) (0 : Int64))]) (s' := s) rfl ?_
        refine wpc_if (a := 130) (b := 119) rfl (by decide) rfl rfl (wpc_br (p := (0 : Int32) < (XT.cmpL (gL s 3 (ix x4)) (0 : Int64))) ⟨fun hc288 => ?_, fun hc288 => ?_⟩)
        · have h289 := h287.1 hc288
          refine wpc_sl (n := 4) (c' := 21) (pc' := 126) (ls' := [some (.ref 0), some (.int x1), some (.long x2), none, some (.int x4)]) (st' := [.int x4, .ref 2, .long x2]) (s' := s) rfl ?_
          refine wpc_ldaI (a := 1) (N := 8) (v := (gI s 2 (ix x4))) rfl rfl (by decide) h289.1 rfl ?_
          have h291 := h289.2
          refine wpc_sl (n := 3) (c' := 21) (pc' := 130) (ls' := [some (.ref 0), some (.int x1), some (.long (x2 + (Int32.toInt64 (gI s 2 (ix x4))))), none, some (.int x4)]) (st' := []) (s' := s) rfl ?_
          exact h291
        · have h290 := h287.2 hc288
          exact h290
      · have h286 := h283.2 hc284
        exact h286
    · have h282 := h278.2 hc280
      exact h282
  · have h279 := h.2 hc277
    refine wpc_sl (n := 4) (c' := 21) (pc' := 142) (ls' := [some (.ref 0), some (.int x1), some (.long x2), none, some (.int x4)]) (st' := [.long x2, .int x1, .ref 3]) (s' := s) rfl ?_
    refine wpc_staJ (a := 2) (N := 8) (s' := (sL s 3 (ix x1) x2)) rfl rfl (by decide) h279.1 rfl ?_
    have h292 := h279.2
    exact wpc_lle (ls := [some (.ref 0), some (.int x1), none, none, none]) ⟨rfl, rfl, trivial⟩ h292
theorem c22_130 (x1 : Int32) (x2 : Int64) (x4 : Int32) (s : St) (Q : St → Prop) (h : wpcV PP 22 cm22 21 80 [some (.ref 0), some (.int x1), some (.long x2), none, some (.int (x4 + (1 : Int32)))] [] s Q) : wpcV PP 22 cm22 21 130 [some (.ref 0), some (.int x1), some (.long x2), none, some (.int x4)] [] s Q := by
  refine wpc_sl (n := 2) (c' := 21) (pc' := 80) (ls' := [some (.ref 0), some (.int x1), some (.long x2), none, some (.int (x4 + (1 : Int32)))]) (st' := []) (s' := s) rfl ?_
  exact h
theorem c23_in  (s : St) (Q : St → Prop) (h : inb 8 (0 : Int32) ∧ wpcV PP 23 cm23 21 9 [some (.ref 0), some (.int (1 : Int32)), none] [] (sL s 4 (ix (0 : Int32)) (0 : Int64)) Q) : calV PP 23 21 [.ref 0] s Q := by
  refine cal_of (me := cm23) (ls := [some (.ref 0), none, none]) rfl (Nat.le_of_ble_eq_true rfl) rfl ?_
  refine wpc_sl (n := 4) (c' := 21) (pc' := 6) (ls' := [some (.ref 0), none, none]) (st' := [.long (0 : Int64), .int (0 : Int32), .ref 4]) (s' := s) rfl ?_
  refine wpc_staJ (a := 3) (N := 8) (s' := (sL s 4 (ix (0 : Int32)) (0 : Int64))) rfl rfl (by decide) h.1 rfl ?_
  have h293 := h.2
  refine wpc_sl (n := 2) (c' := 21) (pc' := 9) (ls' := [some (.ref 0), some (.int (1 : Int32)), none]) (st' := []) (s' := (sL s 4 (ix (0 : Int32)) (0 : Int64))) rfl ?_
  exact h293
theorem c23_9 (x1 : Int32) (s : St) (Q : St → Prop) (h : ((x1 < (8 : Int32)) → ((x1 < (gI s 0 40)) → inb 8 x1 ∧ (((XT.cmpL (gL s 3 (ix x1)) (0 : Int64)) = (0 : Int32)) → wpcV PP 23 cm23 21 34 [some (.ref 0), some (.int x1), none] [] s Q) ∧ (¬ ((XT.cmpL (gL s 3 (ix x1)) (0 : Int64)) = (0 : Int32)) → inb 8 x1 ∧ (((gI s 1 (ix x1)) = (0 : Int32)) → inb 8 x1 ∧ inb 8 x1 ∧ wpcV PP 23 cm23 21 128 [some (.ref 0), some (.int x1), none] [] (sL s 4 (ix x1) (Int32.toInt64 (gI s 2 (ix x1)))) Q) ∧ (¬ ((gI s 1 (ix x1)) = (0 : Int32)) → (((0 : Int32) < (gI s 1 (ix x1))) → (((gI s 1 (ix x1)) < x1) → inb 8 (gI s 1 (ix x1)) ∧ (((0 : Int32) < (XT.cmpL (gL s 3 (ix (gI s 1 (ix x1)))) (0 : Int64))) → inb 8 x1 ∧ inb 8 (gI s 1 (ix x1)) ∧ inb 8 (gI s 1 (ix x1)) ∧ (¬ ((gL s 3 (ix (gI s 1 (ix x1)))) = (0 : Int64))) ∧ inb 8 x1 ∧ wpcV PP 23 cm23 21 128 [some (.ref 0), some (.int x1), none] [] (sL s 4 (ix x1) (((Int32.toInt64 (gI s 2 (ix x1))) * (gL s 4 (ix (gI s 1 (ix x1))))) / (gL s 3 (ix (gI s 1 (ix x1)))))) Q) ∧ (¬ ((0 : Int32) < (XT.cmpL (gL s 3 (ix (gI s 1 (ix x1)))) (0 : Int64))) → wpcV PP 23 cm23 21 121 [some (.ref 0), some (.int x1), none] [] s Q)) ∧ (¬ ((gI s 1 (ix x1)) < x1) → wpcV PP 23 cm23 21 121 [some (.ref 0), some (.int x1), none] [] s Q)) ∧ (¬ ((0 : Int32) < (gI s 1 (ix x1))) → wpcV PP 23 cm23 21 121 [some (.ref 0), some (.int x1), none] [] s Q)))) ∧ (¬ (x1 < (gI s 0 40)) → wpcV PP 23 cm23 21 34 [some (.ref 0), some (.int x1), none] [] s Q)) ∧ (¬ (x1 < (8 : Int32)) → Q s)) : wpcV PP 23 cm23 21 9 [some (.ref 0), some (.int x1), none] [] s Q := by
  refine wpc_sl (n := 2) (c' := 21) (pc' := 12) (ls' := [some (.ref 0), some (.int x1), none]) (st' := [.int (8 : Int32), .int x1]) (s' := s) rfl ?_
  refine wpc_icmp (a := 134) (b := 15) rfl (by decide) rfl rfl (wpc_br (p := x1 < (8 : Int32)) ⟨fun hc294 => ?_, fun hc294 => ?_⟩)
  · have h295 := h.1 hc294
    refine wpc_sl (n := 3) (c' := 21) (pc' := 20) (ls' := [some (.ref 0), some (.int x1), none]) (st' := [.int (gI s 0 40), .int x1]) (s' := s) rfl ?_
    refine wpc_icmp (a := 34) (b := 23) rfl (by decide) rfl rfl (wpc_br (p := x1 < (gI s 0 40)) ⟨fun hc297 => ?_, fun hc297 => ?_⟩)
    · have h298 := h295.1 hc297
      refine wpc_sl (n := 3) (c' := 21) (pc' := 28) (ls' := [some (.ref 0), some (.int x1), none]) (st' := [.int x1, .ref 3]) (s' := s) rfl ?_
      refine wpc_ldaJ (a := 2) (N := 8) (v := (gL s 3 (ix x1))) rfl rfl (by decide) h298.1 rfl ?_
      have h300 := h298.2
      refine wpc_sl (n := 2) (c' := 21) (pc' := 31) (ls' := [some (.ref 0), some (.int x1), none]) (st' := [.int (XT.cmpL (gL s 3 (ix x1)) (0 : Int64))]) (s' := s) rfl ?_
      refine wpc_if (a := 44) (b := 34) rfl (by decide) rfl rfl (wpc_br (p := (XT.cmpL (gL s 3 (ix x1)) (0 : Int64)) = (0 : Int32)) ⟨fun hc301 => ?_, fun hc301 => ?_⟩)
      · have h302 := h300.1 hc301
        exact h302
      · have h303 := h300.2 hc301
        refine wpc_sl (n := 3) (c' := 21) (pc' := 49) (ls' := [some (.ref 0), some (.int x1), none]) (st' := [.int x1, .ref 1]) (s' := s) rfl ?_
        refine wpc_ldaI (a := 0) (N := 8) (v := (gI s 1 (ix x1))) rfl rfl (by decide) h303.1 rfl ?_
        have h304 := h303.2
        refine wpc_sl (n := 2) (c' := 21) (pc' := 52) (ls' := [some (.ref 0), some (.int x1), some (.int (gI s 1 (ix x1)))]) (st' := [.int (gI s 1 (ix x1))]) (s' := s) rfl ?_
        refine wpc_if (a := 71) (b := 55) rfl (by decide) rfl rfl (wpc_br (p := (gI s 1 (ix x1)) = (0 : Int32)) ⟨fun hc305 => ?_, fun hc305 => ?_⟩)
        · have h306 := h304.1 hc305
          refine wpc_sl (n := 6) (c' := 21) (pc' := 65) (ls' := [some (.ref 0), some (.int x1), some (.int (gI s 1 (ix x1)))]) (st' := [.int x1, .ref 2, .int x1, .ref 4]) (s' := s) rfl ?_
          refine wpc_ldaI (a := 1) (N := 8) (v := (gI s 2 (ix x1))) rfl rfl (by decide) h306.1 rfl ?_
          have h308 := h306.2
          refine wpc_sl (n := 1) (c' := 21) (pc' := 67) (ls' := [some (.ref 0), some (.int x1), some (.int (gI s 1 (ix x1)))]) (st' := [.long (Int32.toInt64 (gI s 2 (ix x1))), .int x1, .ref 4]) (s' := s) rfl ?_
          refine wpc_staJ (a := 3) (N := 8) (s' := (sL s 4 (ix x1) (Int32.toInt64 (gI s 2 (ix x1))))) rfl rfl (by decide) h308.1 rfl ?_
          have h309 := h308.2
          refine wpc_sl (n := 1) (c' := 21) (pc' := 128) (ls' := [some (.ref 0), some (.int x1), some (.int (gI s 1 (ix x1)))]) (st' := []) (s' := (sL s 4 (ix x1) (Int32.toInt64 (gI s 2 (ix x1))))) rfl ?_
          exact wpc_lle (ls := [some (.ref 0), some (.int x1), none]) ⟨rfl, rfl, trivial⟩ h309
        · have h307 := h304.2 hc305
          refine wpc_sl (n := 1) (c' := 21) (pc' := 72) (ls' := [some (.ref 0), some (.int x1), some (.int (gI s 1 (ix x1)))]) (st' := [.int (gI s 1 (ix x1))]) (s' := s) rfl ?_
          refine wpc_if (a := 121) (b := 75) rfl (by decide) rfl rfl (wpc_br (p := (0 : Int32) < (gI s 1 (ix x1))) ⟨fun hc310 => ?_, fun hc310 => ?_⟩)
          · have h311 := h307.1 hc310
            refine wpc_sl (n := 2) (c' := 21) (pc' := 77) (ls' := [some (.ref 0), some (.int x1), some (.int (gI s 1 (ix x1)))]) (st' := [.int x1, .int (gI s 1 (ix x1))]) (s' := s) rfl ?_
            refine wpc_icmp (a := 121) (b := 80) rfl (by decide) rfl rfl (wpc_br (p := (gI s 1 (ix x1)) < x1) ⟨fun hc313 => ?_, fun hc313 => ?_⟩)
            · have h314 := h311.1 hc313
              refine wpc_sl (n := 3) (c' := 21) (pc' := 85) (ls' := [some (.ref 0), some (.int x1), some (.int (gI s 1 (ix x1)))]) (st' := [.int (gI s 1 (ix x1)), .ref 3]) (s' := s) rfl ?_
              refine wpc_ldaJ (a := 2) (N := 8) (v := (gL s 3 (ix (gI s 1 (ix x1))))) rfl rfl (by decide) h314.1 rfl ?_
              have h316 := h314.2
              refine wpc_sl (n := 2) (c' := 21) (pc' := 88) (ls' := [some (.ref 0), some (.int x1), some (.int (gI s 1 (ix x1)))]) (st' := [.int (XT.cmpL (gL s 3 (ix (gI s 1 (ix x1)))) (0 : Int64))]) (s' := s) rfl ?_
              refine wpc_if (a := 121) (b := 91) rfl (by decide) rfl rfl (wpc_br (p := (0 : Int32) < (XT.cmpL (gL s 3 (ix (gI s 1 (ix x1)))) (0 : Int64))) ⟨fun hc317 => ?_, fun hc317 => ?_⟩)
              · have h318 := h316.1 hc317
                refine wpc_sl (n := 6) (c' := 21) (pc' := 101) (ls' := [some (.ref 0), some (.int x1), some (.int (gI s 1 (ix x1)))]) (st' := [.int x1, .ref 2, .int x1, .ref 4]) (s' := s) rfl ?_
                refine wpc_ldaI (a := 1) (N := 8) (v := (gI s 2 (ix x1))) rfl rfl (by decide) h318.1 rfl ?_
                have h320 := h318.2
                refine wpc_sl (n := 4) (c' := 21) (pc' := 108) (ls' := [some (.ref 0), some (.int x1), some (.int (gI s 1 (ix x1)))]) (st' := [.int (gI s 1 (ix x1)), .ref 4, .long (Int32.toInt64 (gI s 2 (ix x1))), .int x1, .ref 4]) (s' := s) rfl ?_
                refine wpc_ldaJ (a := 3) (N := 8) (v := (gL s 4 (ix (gI s 1 (ix x1))))) rfl rfl (by decide) h320.1 rfl ?_
                have h321 := h320.2
                refine wpc_sl (n := 4) (c' := 21) (pc' := 115) (ls' := [some (.ref 0), some (.int x1), some (.int (gI s 1 (ix x1)))]) (st' := [.int (gI s 1 (ix x1)), .ref 3, .long ((Int32.toInt64 (gI s 2 (ix x1))) * (gL s 4 (ix (gI s 1 (ix x1))))), .int x1, .ref 4]) (s' := s) rfl ?_
                refine wpc_ldaJ (a := 2) (N := 8) (v := (gL s 3 (ix (gI s 1 (ix x1))))) rfl rfl (by decide) h321.1 rfl ?_
                have h322 := h321.2
                refine wpc_ldiv rfl h322.1 ?_
                have h323 := h322.2
                refine wpc_staJ (a := 3) (N := 8) (s' := (sL s 4 (ix x1) (((Int32.toInt64 (gI s 2 (ix x1))) * (gL s 4 (ix (gI s 1 (ix x1))))) / (gL s 3 (ix (gI s 1 (ix x1))))))) rfl rfl (by decide) h323.1 rfl ?_
                have h324 := h323.2
                refine wpc_sl (n := 1) (c' := 21) (pc' := 128) (ls' := [some (.ref 0), some (.int x1), some (.int (gI s 1 (ix x1)))]) (st' := []) (s' := (sL s 4 (ix x1) (((Int32.toInt64 (gI s 2 (ix x1))) * (gL s 4 (ix (gI s 1 (ix x1))))) / (gL s 3 (ix (gI s 1 (ix x1))))))) rfl ?_
                exact wpc_lle (ls := [some (.ref 0), some (.int x1), none]) ⟨rfl, rfl, trivial⟩ h324
              · have h319 := h316.2 hc317
                exact wpc_lle (ls := [some (.ref 0), some (.int x1), none]) ⟨rfl, rfl, trivial⟩ h319
            · have h315 := h311.2 hc313
              exact wpc_lle (ls := [some (.ref 0), some (.int x1), none]) ⟨rfl, rfl, trivial⟩ h315
          · have h312 := h307.2 hc310
            exact wpc_lle (ls := [some (.ref 0), some (.int x1), none]) ⟨rfl, rfl, trivial⟩ h312
    · have h299 := h295.2 hc297
      exact h299
  · have h296 := h.2 hc294
    exact wpc_ret rfl rfl (fun q => absurd q (by decide)) rfl ⟨rfl, h296⟩
theorem c23_34 (x1 : Int32) (s : St) (Q : St → Prop) (h : inb 8 x1 ∧ wpcV PP 23 cm23 21 128 [some (.ref 0), some (.int x1), none] [] (sL s 4 (ix x1) (0 : Int64)) Q) : wpcV PP 23 cm23 21 34 [some (.ref 0), some (.int x1), none] [] s Q := by
  refine wpc_sl (n := 4) (c' := 21) (pc' := 40) (ls' := [some (.ref 0), some (.int x1), none]) (st' := [.long (0 : Int64), .int x1, .ref 4]) (s' := s) rfl ?_
  refine wpc_staJ (a := 3) (N := 8) (s' := (sL s 4 (ix x1) (0 : Int64))) rfl rfl (by decide) h.1 rfl ?_
  have h325 := h.2
  refine wpc_sl (n := 1) (c' := 21) (pc' := 128) (ls' := [some (.ref 0), some (.int x1), none]) (st' := []) (s' := (sL s 4 (ix x1) (0 : Int64))) rfl ?_
  exact h325
theorem c23_128 (x1 : Int32) (s : St) (Q : St → Prop) (h : wpcV PP 23 cm23 21 9 [some (.ref 0), some (.int (x1 + (1 : Int32))), none] [] s Q) : wpcV PP 23 cm23 21 128 [some (.ref 0), some (.int x1), none] [] s Q := by
  refine wpc_sl (n := 2) (c' := 21) (pc' := 9) (ls' := [some (.ref 0), some (.int (x1 + (1 : Int32))), none]) (st' := []) (s' := s) rfl ?_
  exact h
theorem c23_121 (x1 : Int32) (s : St) (Q : St → Prop) (h : inb 8 x1 ∧ wpcV PP 23 cm23 21 128 [some (.ref 0), some (.int x1), none] [] (sL s 4 (ix x1) (0 : Int64)) Q) : wpcV PP 23 cm23 21 121 [some (.ref 0), some (.int x1), none] [] s Q := by
  refine wpc_sl (n := 4) (c' := 21) (pc' := 127) (ls' := [some (.ref 0), some (.int x1), none]) (st' := [.long (0 : Int64), .int x1, .ref 4]) (s' := s) rfl ?_
  refine wpc_staJ (a := 3) (N := 8) (s' := (sL s 4 (ix x1) (0 : Int64))) rfl rfl (by decide) h.1 rfl ?_
  have h326 := h.2
  exact h326
theorem c24_in  (s : St) (Q : St → Prop) (h : wpcV PP 24 cm24 21 2 [some (.ref 0), some (.int (0 : Int32)), none] [] s Q) : calV PP 24 21 [.ref 0] s Q := by
  refine cal_of (me := cm24) (ls := [some (.ref 0), none, none]) rfl (Nat.le_of_ble_eq_true rfl) rfl ?_
  refine wpc_sl (n := 2) (c' := 21) (pc' := 2) (ls' := [some (.ref 0), some (.int (0 : Int32)), none]) (st' := []) (s' := s) rfl ?_
  exact h
theorem c24_2 (x1 : Int32) (s : St) (Q : St → Prop) (h : ((x1 < (16 : Int32)) → inb 16 x1 ∧ inb 16 x1 ∧ (((gI s 17 (ix x1)) = (0 : Int32)) → wpcV PP 24 cm24 21 102 [some (.ref 0), some (.int x1), none] [] (sL s 18 (ix x1) (0 : Int64)) Q) ∧ (¬ ((gI s 17 (ix x1)) = (0 : Int32)) → inb 16 x1 ∧ (((gI s 6 (ix x1)) = (0 : Int32)) → inb 16 x1 ∧ inb 16 x1 ∧ wpcV PP 24 cm24 21 102 [some (.ref 0), some (.int x1), none] [] (sL (sL s 18 (ix x1) (0 : Int64)) 18 (ix x1) (Int32.toInt64 (gI s 7 (ix x1)))) Q) ∧ (¬ ((gI s 6 (ix x1)) = (0 : Int32)) → (((0 : Int32) < (gI s 6 (ix x1))) → (((gI s 6 (ix x1)) < (8 : Int32)) → inb 8 (gI s 6 (ix x1)) ∧ (((0 : Int32) < (XT.cmpL (gL s 3 (ix (gI s 6 (ix x1)))) (0 : Int64))) → inb 16 x1 ∧ inb 8 (gI s 6 (ix x1)) ∧ inb 8 (gI s 6 (ix x1)) ∧ (¬ ((gL s 3 (ix (gI s 6 (ix x1)))) = (0 : Int64))) ∧ inb 16 x1 ∧ wpcV PP 24 cm24 21 102 [some (.ref 0), some (.int x1), none] [] (sL (sL s 18 (ix x1) (0 : Int64)) 18 (ix x1) (((Int32.toInt64 (gI s 7 (ix x1))) * (gL s 4 (ix (gI s 6 (ix x1))))) / (gL s 3 (ix (gI s 6 (ix x1)))))) Q) ∧ (¬ ((0 : Int32) < (XT.cmpL (gL s 3 (ix (gI s 6 (ix x1)))) (0 : Int64))) → wpcV PP 24 cm24 21 102 [some (.ref 0), some (.int x1), none] [] (sL s 18 (ix x1) (0 : Int64)) Q)) ∧ (¬ ((gI s 6 (ix x1)) < (8 : Int32)) → wpcV PP 24 cm24 21 102 [some (.ref 0), some (.int x1), none] [] (sL s 18 (ix x1) (0 : Int64)) Q)) ∧ (¬ ((0 : Int32) < (gI s 6 (ix x1))) → wpcV PP 24 cm24 21 102 [some (.ref 0), some (.int x1), none] [] (sL s 18 (ix x1) (0 : Int64)) Q)))) ∧ (¬ (x1 < (16 : Int32)) → Q s)) : wpcV PP 24 cm24 21 2 [some (.ref 0), some (.int x1), none] [] s Q := by
  refine wpc_sl (n := 2) (c' := 21) (pc' := 5) (ls' := [some (.ref 0), some (.int x1), none]) (st' := [.int (16 : Int32), .int x1]) (s' := s) rfl ?_
  refine wpc_icmp (a := 108) (b := 8) rfl (by decide) rfl rfl (wpc_br (p := x1 < (16 : Int32)) ⟨fun hc327 => ?_, fun hc327 => ?_⟩)
  · have h328 := h.1 hc327
    refine wpc_sl (n := 4) (c' := 21) (pc' := 14) (ls' := [some (.ref 0), some (.int x1), none]) (st' := [.long (0 : Int64), .int x1, .ref 18]) (s' := s) rfl ?_
    refine wpc_staJ (a := 17) (N := 16) (s' := (sL s 18 (ix x1) (0 : Int64))) rfl rfl (by decide) h328.1 rfl ?_
    have h330 := h328.2
    refine wpc_sl (n := 3) (c' := 21) (pc' := 20) (ls' := [some (.ref 0), some (.int x1), none]) (st' := [.int x1, .ref 17]) (s' := (sL s 18 (ix x1) (0 : Int64))) rfl ?_
    refine wpc_ldaZ (a := 16) (N := 16) (v := (gI s 17 (ix x1))) rfl rfl (by decide) h330.1 rfl ?_
    have h331 := h330.2
    refine wpc_if (a := 27) (b := 24) rfl (by decide) rfl rfl (wpc_br (p := (gI s 17 (ix x1)) = (0 : Int32)) ⟨fun hc332 => ?_, fun hc332 => ?_⟩)
    · have h333 := h331.1 hc332
      refine wpc_sl (n := 1) (c' := 21) (pc' := 102) (ls' := [some (.ref 0), some (.int x1), none]) (st' := []) (s' := (sL s 18 (ix x1) (0 : Int64))) rfl ?_
      exact h333
    · have h334 := h331.2 hc332
      refine wpc_sl (n := 3) (c' := 21) (pc' := 32) (ls' := [some (.ref 0), some (.int x1), none]) (st' := [.int x1, .ref 6]) (s' := (sL s 18 (ix x1) (0 : Int64))) rfl ?_
      refine wpc_ldaI (a := 5) (N := 16) (v := (gI s 6 (ix x1))) rfl rfl (by decide) h334.1 rfl ?_
      have h335 := h334.2
      refine wpc_sl (n := 2) (c' := 21) (pc' := 35) (ls' := [some (.ref 0), some (.int x1), some (.int (gI s 6 (ix x1)))]) (st' := [.int (gI s 6 (ix x1))]) (s' := (sL s 18 (ix x1) (0 : Int64))) rfl ?_
      refine wpc_if (a := 54) (b := 38) rfl (by decide) rfl rfl (wpc_br (p := (gI s 6 (ix x1)) = (0 : Int32)) ⟨fun hc336 => ?_, fun hc336 => ?_⟩)
      · have h337 := h335.1 hc336
        refine wpc_sl (n := 6) (c' := 21) (pc' := 48) (ls' := [some (.ref 0), some (.int x1), some (.int (gI s 6 (ix x1)))]) (st' := [.int x1, .ref 7, .int x1, .ref 18]) (s' := (sL s 18 (ix x1) (0 : Int64))) rfl ?_
        refine wpc_ldaI (a := 6) (N := 16) (v := (gI s 7 (ix x1))) rfl rfl (by decide) h337.1 rfl ?_
        have h339 := h337.2
        refine wpc_sl (n := 1) (c' := 21) (pc' := 50) (ls' := [some (.ref 0), some (.int x1), some (.int (gI s 6 (ix x1)))]) (st' := [.long (Int32.toInt64 (gI s 7 (ix x1))), .int x1, .ref 18]) (s' := (sL s 18 (ix x1) (0 : Int64))) rfl ?_
        refine wpc_staJ (a := 17) (N := 16) (s' := (sL (sL s 18 (ix x1) (0 : Int64)) 18 (ix x1) (Int32.toInt64 (gI s 7 (ix x1))))) rfl rfl (by decide) h339.1 rfl ?_
        have h340 := h339.2
        refine wpc_sl (n := 1) (c' := 21) (pc' := 102) (ls' := [some (.ref 0), some (.int x1), some (.int (gI s 6 (ix x1)))]) (st' := []) (s' := (sL (sL s 18 (ix x1) (0 : Int64)) 18 (ix x1) (Int32.toInt64 (gI s 7 (ix x1))))) rfl ?_
        exact wpc_lle (ls := [some (.ref 0), some (.int x1), none]) ⟨rfl, rfl, trivial⟩ h340
      · have h338 := h335.2 hc336
        refine wpc_sl (n := 1) (c' := 21) (pc' := 55) (ls' := [some (.ref 0), some (.int x1), some (.int (gI s 6 (ix x1)))]) (st' := [.int (gI s 6 (ix x1))]) (s' := (sL s 18 (ix x1) (0 : Int64))) rfl ?_
        refine wpc_if (a := 102) (b := 58) rfl (by decide) rfl rfl (wpc_br (p := (0 : Int32) < (gI s 6 (ix x1))) ⟨fun hc341 => ?_, fun hc341 => ?_⟩)
        · have h342 := h338.1 hc341
          refine wpc_sl (n := 2) (c' := 21) (pc' := 61) (ls' := [some (.ref 0), some (.int x1), some (.int (gI s 6 (ix x1)))]) (st' := [.int (8 : Int32), .int (gI s 6 (ix x1))]) (s' := (sL s 18 (ix x1) (0 : Int64))) rfl ?_
          refine wpc_icmp (a := 102) (b := 64) rfl (by decide) rfl rfl (wpc_br (p := (gI s 6 (ix x1)) < (8 : Int32)) ⟨fun hc344 => ?_, fun hc344 => ?_⟩)
          · have h345 := h342.1 hc344
            refine wpc_sl (n := 3) (c' := 21) (pc' := 69) (ls' := [some (.ref 0), some (.int x1), some (.int (gI s 6 (ix x1)))]) (st' := [.int (gI s 6 (ix x1)), .ref 3]) (s' := (sL s 18 (ix x1) (0 : Int64))) rfl ?_
            refine wpc_ldaJ (a := 2) (N := 8) (v := (gL s 3 (ix (gI s 6 (ix x1))))) rfl rfl (by decide) h345.1 rfl ?_
            have h347 := h345.2
            refine wpc_sl (n := 2) (c' := 21) (pc' := 72) (ls' := [some (.ref 0), some (.int x1), some (.int (gI s 6 (ix x1)))]) (st' := [.int (XT.cmpL (gL s 3 (ix (gI s 6 (ix x1)))) (0 : Int64))]) (s' := (sL s 18 (ix x1) (0 : Int64))) rfl ?_
            refine wpc_if (a := 102) (b := 75) rfl (by decide) rfl rfl (wpc_br (p := (0 : Int32) < (XT.cmpL (gL s 3 (ix (gI s 6 (ix x1)))) (0 : Int64))) ⟨fun hc348 => ?_, fun hc348 => ?_⟩)
            · have h349 := h347.1 hc348
              refine wpc_sl (n := 6) (c' := 21) (pc' := 85) (ls' := [some (.ref 0), some (.int x1), some (.int (gI s 6 (ix x1)))]) (st' := [.int x1, .ref 7, .int x1, .ref 18]) (s' := (sL s 18 (ix x1) (0 : Int64))) rfl ?_
              refine wpc_ldaI (a := 6) (N := 16) (v := (gI s 7 (ix x1))) rfl rfl (by decide) h349.1 rfl ?_
              have h351 := h349.2
              refine wpc_sl (n := 4) (c' := 21) (pc' := 92) (ls' := [some (.ref 0), some (.int x1), some (.int (gI s 6 (ix x1)))]) (st' := [.int (gI s 6 (ix x1)), .ref 4, .long (Int32.toInt64 (gI s 7 (ix x1))), .int x1, .ref 18]) (s' := (sL s 18 (ix x1) (0 : Int64))) rfl ?_
              refine wpc_ldaJ (a := 3) (N := 8) (v := (gL s 4 (ix (gI s 6 (ix x1))))) rfl rfl (by decide) h351.1 rfl ?_
              have h352 := h351.2
              refine wpc_sl (n := 4) (c' := 21) (pc' := 99) (ls' := [some (.ref 0), some (.int x1), some (.int (gI s 6 (ix x1)))]) (st' := [.int (gI s 6 (ix x1)), .ref 3, .long ((Int32.toInt64 (gI s 7 (ix x1))) * (gL s 4 (ix (gI s 6 (ix x1))))), .int x1, .ref 18]) (s' := (sL s 18 (ix x1) (0 : Int64))) rfl ?_
              refine wpc_ldaJ (a := 2) (N := 8) (v := (gL s 3 (ix (gI s 6 (ix x1))))) rfl rfl (by decide) h352.1 rfl ?_
              have h353 := h352.2
              refine wpc_ldiv rfl h353.1 ?_
              have h354 := h353.2
              refine wpc_staJ (a := 17) (N := 16) (s' := (sL (sL s 18 (ix x1) (0 : Int64)) 18 (ix x1) (((Int32.toInt64 (gI s 7 (ix x1))) * (gL s 4 (ix (gI s 6 (ix x1))))) / (gL s 3 (ix (gI s 6 (ix x1))))))) rfl rfl (by decide) h354.1 rfl ?_
              have h355 := h354.2
              exact wpc_lle (ls := [some (.ref 0), some (.int x1), none]) ⟨rfl, rfl, trivial⟩ h355
            · have h350 := h347.2 hc348
              exact wpc_lle (ls := [some (.ref 0), some (.int x1), none]) ⟨rfl, rfl, trivial⟩ h350
          · have h346 := h342.2 hc344
            exact wpc_lle (ls := [some (.ref 0), some (.int x1), none]) ⟨rfl, rfl, trivial⟩ h346
        · have h343 := h338.2 hc341
          exact wpc_lle (ls := [some (.ref 0), some (.int x1), none]) ⟨rfl, rfl, trivial⟩ h343
  · have h329 := h.2 hc327
    exact wpc_ret rfl rfl (fun q => absurd q (by decide)) rfl ⟨rfl, h329⟩
theorem c24_102 (x1 : Int32) (s : St) (Q : St → Prop) (h : wpcV PP 24 cm24 21 2 [some (.ref 0), some (.int (x1 + (1 : Int32))), none] [] s Q) : wpcV PP 24 cm24 21 102 [some (.ref 0), some (.int x1), none] [] s Q := by
  refine wpc_sl (n := 2) (c' := 21) (pc' := 2) (ls' := [some (.ref 0), some (.int (x1 + (1 : Int32))), none]) (st' := []) (s' := s) rfl ?_
  exact h
theorem c25_in  (s : St) (Q : St → Prop) (h : wpcV PP 25 cm25 21 2 [some (.ref 0), some (.int (0 : Int32)), none, none] [] s Q) : calV PP 25 21 [.ref 0] s Q := by
  refine cal_of (me := cm25) (ls := [some (.ref 0), none, none, none]) rfl (Nat.le_of_ble_eq_true rfl) rfl ?_
  refine wpc_sl (n := 2) (c' := 21) (pc' := 2) (ls' := [some (.ref 0), some (.int (0 : Int32)), none, none]) (st' := []) (s' := s) rfl ?_
  exact h
theorem c25_2 (x1 : Int32) (s : St) (Q : St → Prop) (h : ((x1 < (16 : Int32)) → inb 16 x1 ∧ wpcV PP 25 cm25 21 2 [some (.ref 0), some (.int (x1 + (1 : Int32))), none, none] [] (sL s 19 (ix x1) (0 : Int64)) Q) ∧ (¬ (x1 < (16 : Int32)) → wpcV PP 25 cm25 21 23 [some (.ref 0), some (.int (0 : Int32)), none, none] [] s Q)) : wpcV PP 25 cm25 21 2 [some (.ref 0), some (.int x1), none, none] [] s Q := by
  refine wpc_sl (n := 2) (c' := 21) (pc' := 5) (ls' := [some (.ref 0), some (.int x1), none, none]) (st' := [.int (16 : Int32), .int x1]) (s' := s) rfl ?_
  refine wpc_icmp (a := 21) (b := 8) rfl (by decide) rfl rfl (wpc_br (p := x1 < (16 : Int32)) ⟨fun hc356 => ?_, fun hc356 => ?_⟩)
  · have h357 := h.1 hc356
    refine wpc_sl (n := 4) (c' := 21) (pc' := 14) (ls' := [some (.ref 0), some (.int x1), none, none]) (st' := [.long (0 : Int64), .int x1, .ref 19]) (s' := s) rfl ?_
    refine wpc_staJ (a := 18) (N := 16) (s' := (sL s 19 (ix x1) (0 : Int64))) rfl rfl (by decide) h357.1 rfl ?_
    have h359 := h357.2
    refine wpc_sl (n := 2) (c' := 21) (pc' := 2) (ls' := [some (.ref 0), some (.int (x1 + (1 : Int32))), none, none]) (st' := []) (s' := (sL s 19 (ix x1) (0 : Int64))) rfl ?_
    exact h359
  · have h358 := h.2 hc356
    refine wpc_sl (n := 2) (c' := 21) (pc' := 23) (ls' := [some (.ref 0), some (.int (0 : Int32)), none, none]) (st' := []) (s' := s) rfl ?_
    exact h358
theorem c25_23 (x1 : Int32) (s : St) (Q : St → Prop) (h : ((x1 < (16 : Int32)) → inb 16 x1 ∧ inb 16 x1 ∧ (((gI s 17 (ix x1)) = (0 : Int32)) → wpcV PP 25 cm25 21 74 [some (.ref 0), some (.int x1), none, none] [] s Q) ∧ (¬ ((gI s 17 (ix x1)) = (0 : Int32)) → (((gI s 16 (ix x1)) < (0 : Int32)) → wpcV PP 25 cm25 21 74 [some (.ref 0), some (.int x1), none, none] [] s Q) ∧ (¬ ((gI s 16 (ix x1)) < (0 : Int32)) → (((gI s 16 (ix x1)) < (16 : Int32)) → inb 16 (gI s 16 (ix x1)) ∧ inb 16 x1 ∧ inb 16 (gI s 16 (ix x1)) ∧ wpcV PP 25 cm25 21 74 [some (.ref 0), some (.int x1), none, none] [] (sL s 19 (ix (gI s 16 (ix x1))) ((gL s 19 (ix (gI s 16 (ix x1)))) + (gL s 18 (ix x1)))) Q) ∧ (¬ ((gI s 16 (ix x1)) < (16 : Int32)) → wpcV PP 25 cm25 21 74 [some (.ref 0), some (.int x1), none, none] [] s Q)))) ∧ (¬ (x1 < (16 : Int32)) → wpcV PP 25 cm25 21 82 [some (.ref 0), some (.int (0 : Int32)), none, none] [] s Q)) : wpcV PP 25 cm25 21 23 [some (.ref 0), some (.int x1), none, none] [] s Q := by
  refine wpc_sl (n := 2) (c' := 21) (pc' := 26) (ls' := [some (.ref 0), some (.int x1), none, none]) (st' := [.int (16 : Int32), .int x1]) (s' := s) rfl ?_
  refine wpc_icmp (a := 80) (b := 29) rfl (by decide) rfl rfl (wpc_br (p := x1 < (16 : Int32)) ⟨fun hc360 => ?_, fun hc360 => ?_⟩)
  · have h361 := h.1 hc360
    refine wpc_sl (n := 3) (c' := 21) (pc' := 34) (ls' := [some (.ref 0), some (.int x1), none, none]) (st' := [.int x1, .ref 16]) (s' := s) rfl ?_
    refine wpc_ldaI (a := 15) (N := 16) (v := (gI s 16 (ix x1))) rfl rfl (by decide) h361.1 rfl ?_
    have h363 := h361.2
    refine wpc_sl (n := 4) (c' := 21) (pc' := 41) (ls' := [some (.ref 0), some (.int x1), some (.int (gI s 16 (ix x1))), none]) (st' := [.int x1, .ref 17]) (s' := s) rfl ?_
    refine wpc_ldaZ (a := 16) (N := 16) (v := (gI s 17 (ix x1))) rfl rfl (by decide) h363.1 rfl ?_
    have h364 := h363.2
    refine wpc_if (a := 74) (b := 45) rfl (by decide) rfl rfl (wpc_br (p := (gI s 17 (ix x1)) = (0 : Int32)) ⟨fun hc365 => ?_, fun hc365 => ?_⟩)
    · have h366 := h364.1 hc365
      exact wpc_lle (ls := [some (.ref 0), some (.int x1), none, none]) ⟨rfl, rfl, trivial⟩ h366
    · have h367 := h364.2 hc365
      refine wpc_sl (n := 1) (c' := 21) (pc' := 46) (ls' := [some (.ref 0), some (.int x1), some (.int (gI s 16 (ix x1))), none]) (st' := [.int (gI s 16 (ix x1))]) (s' := s) rfl ?_
      refine wpc_if (a := 74) (b := 49) rfl (by decide) rfl rfl (wpc_br (p := (gI s 16 (ix x1)) < (0 : Int32)) ⟨fun hc368 => ?_, fun hc368 => ?_⟩)
      · have h369 := h367.1 hc368
        exact wpc_lle (ls := [some (.ref 0), some (.int x1), none, none]) ⟨rfl, rfl, trivial⟩ h369
      · have h370 := h367.2 hc368
        refine wpc_sl (n := 2) (c' := 21) (pc' := 52) (ls' := [some (.ref 0), some (.int x1), some (.int (gI s 16 (ix x1))), none]) (st' := [.int (16 : Int32), .int (gI s 16 (ix x1))]) (s' := s) rfl ?_
        refine wpc_icmp (a := 74) (b := 55) rfl (by decide) rfl rfl (wpc_br (p := (gI s 16 (ix x1)) < (16 : Int32)) ⟨fun hc371 => ?_, fun hc371 => ?_⟩)
        · have h372 := h370.1 hc371
          refine wpc_sl (n := 6) (c' := 21) (pc' := 65) (ls' := [some (.ref 0), some (.int x1), some (.int (gI s 16 (ix x1))), none]) (st' := [.int (gI s 16 (ix x1)), .ref 19, .int (gI s 16 (ix x1)), .ref 19]) (s' := s) rfl ?_
          refine wpc_ldaJ (a := 18) (N := 16) (v := (gL s 19 (ix (gI s 16 (ix x1))))) rfl rfl (by decide) h372.1 rfl ?_
          have h374 := h372.2
          refine wpc_sl (n := 3) (c' := 21) (pc' := 71) (ls' := [some (.ref 0), some (.int x1), some (.int (gI s 16 (ix x1))), none]) (st' := [.int x1, .ref 18, .long (gL s 19 (ix (gI s 16 (ix x1)))), .int (gI s 16 (ix x1)), .ref 19]) (s' := s) rfl ?_
          refine wpc_ldaJ (a := 17) (N := 16) (v := (gL s 18 (ix x1))) rfl rfl (by decide) h374.1 rfl ?_
          have h375 := h374.2
          refine wpc_sl (n := 1) (c' := 21) (pc' := 73) (ls' := [some (.ref 0), some (.int x1), some (.int (gI s 16 (ix x1))), none]) (st' := [.long ((gL s 19 (ix (gI s 16 (ix x1)))) + (gL s 18 (ix x1))), .int (gI s 16 (ix x1)), .ref 19]) (s' := s) rfl ?_
          refine wpc_staJ (a := 18) (N := 16) (s' := (sL s 19 (ix (gI s 16 (ix x1))) ((gL s 19 (ix (gI s 16 (ix x1)))) + (gL s 18 (ix x1))))) rfl rfl (by decide) h375.1 rfl ?_
          have h376 := h375.2
          exact wpc_lle (ls := [some (.ref 0), some (.int x1), none, none]) ⟨rfl, rfl, trivial⟩ h376
        · have h373 := h370.2 hc371
          exact wpc_lle (ls := [some (.ref 0), some (.int x1), none, none]) ⟨rfl, rfl, trivial⟩ h373
  · have h362 := h.2 hc360
    refine wpc_sl (n := 2) (c' := 21) (pc' := 82) (ls' := [some (.ref 0), some (.int (0 : Int32)), none, none]) (st' := []) (s' := s) rfl ?_
    exact h362
theorem c25_74 (x1 : Int32) (s : St) (Q : St → Prop) (h : wpcV PP 25 cm25 21 23 [some (.ref 0), some (.int (x1 + (1 : Int32))), none, none] [] s Q) : wpcV PP 25 cm25 21 74 [some (.ref 0), some (.int x1), none, none] [] s Q := by
  refine wpc_sl (n := 2) (c' := 21) (pc' := 23) (ls' := [some (.ref 0), some (.int (x1 + (1 : Int32))), none, none]) (st' := []) (s' := s) rfl ?_
  exact h
theorem c25_82 (x1 : Int32) (s : St) (Q : St → Prop) (h : ((x1 < (16 : Int32)) → ((x1 < (gI s 0 41)) → inb 16 x1 ∧ (((gI s 5 (ix x1)) = (1 : Int32)) → inb 16 x1 ∧ inb 16 x1 ∧ ∀ m389, m389 = (if (XT.cmpL ((gL s 19 (ix x1)) + (gL s 11 (ix x1))) (0 : Int64)) = (0 : Int32) then (1 : Int64) else ((gL s 19 (ix x1)) + (gL s 11 (ix x1)))) → (inb 16 x1 ∧ wpcV PP 25 cm25 21 147 [some (.ref 0), some (.int x1), none, none] [] (sL s 20 (ix x1) m389) Q)) ∧ (¬ ((gI s 5 (ix x1)) = (1 : Int32)) → wpcV PP 25 cm25 21 140 [some (.ref 0), some (.int x1), none, none] [] s Q)) ∧ (¬ (x1 < (gI s 0 41)) → wpcV PP 25 cm25 21 140 [some (.ref 0), some (.int x1), none, none] [] s Q)) ∧ (¬ (x1 < (16 : Int32)) → Q s)) : wpcV PP 25 cm25 21 82 [some (.ref 0), some (.int x1), none, none] [] s Q := by
  refine wpc_sl (n := 2) (c' := 21) (pc' := 85) (ls' := [some (.ref 0), some (.int x1), none, none]) (st' := [.int (16 : Int32), .int x1]) (s' := s) rfl ?_
  refine wpc_icmp (a := 153) (b := 88) rfl (by decide) rfl rfl (wpc_br (p := x1 < (16 : Int32)) ⟨fun hc377 => ?_, fun hc377 => ?_⟩)
  · have h378 := h.1 hc377
    refine wpc_sl (n := 3) (c' := 21) (pc' := 93) (ls' := [some (.ref 0), some (.int x1), none, none]) (st' := [.int (gI s 0 41), .int x1]) (s' := s) rfl ?_
    refine wpc_icmp (a := 140) (b := 96) rfl (by decide) rfl rfl (wpc_br (p := x1 < (gI s 0 41)) ⟨fun hc380 => ?_, fun hc380 => ?_⟩)
    · have h381 := h378.1 hc380
      refine wpc_sl (n := 3) (c' := 21) (pc' := 101) (ls' := [some (.ref 0), some (.int x1), none, none]) (st' := [.int x1, .ref 5]) (s' := s) rfl ?_
      refine wpc_ldaI (a := 4) (N := 16) (v := (gI s 5 (ix x1))) rfl rfl (by decide) h381.1 rfl ?_
      have h383 := h381.2
      refine wpc_sl (n := 1) (c' := 21) (pc' := 103) (ls' := [some (.ref 0), some (.int x1), none, none]) (st' := [.int (1 : Int32), .int (gI s 5 (ix x1))]) (s' := s) rfl ?_
      refine wpc_icmp (a := 140) (b := 106) rfl (by decide) rfl rfl (wpc_br (p := (gI s 5 (ix x1)) = (1 : Int32)) ⟨fun hc384 => ?_, fun hc384 => ?_⟩)
      · have h385 := h383.1 hc384
        refine wpc_sl (n := 3) (c' := 21) (pc' := 111) (ls' := [some (.ref 0), some (.int x1), none, none]) (st' := [.int x1, .ref 19]) (s' := s) rfl ?_
        refine wpc_ldaJ (a := 18) (N := 16) (v := (gL s 19 (ix x1))) rfl rfl (by decide) h385.1 rfl ?_
        have h387 := h385.2
        refine wpc_sl (n := 3) (c' := 21) (pc' := 117) (ls' := [some (.ref 0), some (.int x1), none, none]) (st' := [.int x1, .ref 11, .long (gL s 19 (ix x1))]) (s' := s) rfl ?_
        refine wpc_ldaJ (a := 10) (N := 16) (v := (gL s 11 (ix x1))) rfl rfl (by decide) h387.1 rfl ?_
        have h388 := h387.2
        refine wpc_sl (n := 8) (c' := 21) (pc' := 128) (ls' := [some (.ref 0), some (.int x1), some (.long ((gL s 19 (ix x1)) + (gL s 11 (ix x1)))), none]) (st' := [.int (XT.cmpL ((gL s 19 (ix x1)) + (gL s 11 (ix x1))) (0 : Int64)), .int x1, .ref 20]) (s' := s) rfl ?_
        have hm390 : ∀ m389, m389 = (if (XT.cmpL ((gL s 19 (ix x1)) + (gL s 11 (ix x1))) (0 : Int64)) = (0 : Int32) then (1 : Int64) else ((gL s 19 (ix x1)) + (gL s 11 (ix x1)))) → wpcV PP 25 cm25 21 136 [some (.ref 0), some (.int x1), some (.long ((gL s 19 (ix x1)) + (gL s 11 (ix x1)))), none] [.long m389, .int x1, .ref 20] s Q := by
          intro m389 em389
          have h391 := h388 m389 em389
          refine wpc_staJ (a := 19) (N := 16) (s' := (sL s 20 (ix x1) m389)) rfl rfl (by decide) h391.1 rfl ?_
          have h392 := h391.2
          refine wpc_sl (n := 1) (c' := 21) (pc' := 147) (ls' := [some (.ref 0), some (.int x1), some (.long ((gL s 19 (ix x1)) + (gL s 11 (ix x1)))), none]) (st' := []) (s' := (sL s 20 (ix x1) m389)) rfl ?_
          exact wpc_lle (ls := [some (.ref 0), some (.int x1), none, none]) ⟨rfl, rfl, trivial⟩ h392
        refine wpc_if (a := 135) (b := 131) rfl (by decide) rfl rfl (wpc_br (p := (XT.cmpL ((gL s 19 (ix x1)) + (gL s 11 (ix x1))) (0 : Int64)) = (0 : Int32)) ⟨fun hc393 => ?_, fun hc393 => ?_⟩)
        · refine wpc_sl (n := 2) (c' := 21) (pc' := 136) (ls' := [some (.ref 0), some (.int x1), some (.long ((gL s 19 (ix x1)) + (gL s 11 (ix x1)))), none]) (st' := [.long (1 : Int64), .int x1, .ref 20]) (s' := s) rfl ?_
          first | exact hm390 _ (by simp only [if_pos hc393]) | exact wpc_lle (by repeat (first | exact trivial | refine ⟨rfl, ?_⟩)) (hm390 _ (by simp only [if_pos hc393]))
        · refine wpc_sl (n := 1) (c' := 21) (pc' := 136) (ls' := [some (.ref 0), some (.int x1), some (.long ((gL s 19 (ix x1)) + (gL s 11 (ix x1)))), none]) (st' := [.long ((gL s 19 (ix x1)) + (gL s 11 (ix x1))), .int x1, .ref 20]) (s' := s) rfl ?_
          first | exact hm390 _ (by simp only [if_neg hc393]) | exact wpc_lle (by repeat (first | exact trivial | refine ⟨rfl, ?_⟩)) (hm390 _ (by simp only [if_neg hc393]))
      · have h386 := h383.2 hc384
        exact h386
    · have h382 := h378.2 hc380
      exact h382
  · have h379 := h.2 hc377
    exact wpc_ret rfl rfl (fun q => absurd q (by decide)) rfl ⟨rfl, h379⟩
theorem c25_147 (x1 : Int32) (s : St) (Q : St → Prop) (h : wpcV PP 25 cm25 21 82 [some (.ref 0), some (.int (x1 + (1 : Int32))), none, none] [] s Q) : wpcV PP 25 cm25 21 147 [some (.ref 0), some (.int x1), none, none] [] s Q := by
  refine wpc_sl (n := 2) (c' := 21) (pc' := 82) (ls' := [some (.ref 0), some (.int (x1 + (1 : Int32))), none, none]) (st' := []) (s' := s) rfl ?_
  exact h
theorem c25_140 (x1 : Int32) (s : St) (Q : St → Prop) (h : inb 16 x1 ∧ wpcV PP 25 cm25 21 147 [some (.ref 0), some (.int x1), none, none] [] (sL s 20 (ix x1) (0 : Int64)) Q) : wpcV PP 25 cm25 21 140 [some (.ref 0), some (.int x1), none, none] [] s Q := by
  refine wpc_sl (n := 4) (c' := 21) (pc' := 146) (ls' := [some (.ref 0), some (.int x1), none, none]) (st' := [.long (0 : Int64), .int x1, .ref 20]) (s' := s) rfl ?_
  refine wpc_staJ (a := 19) (N := 16) (s' := (sL s 20 (ix x1) (0 : Int64))) rfl rfl (by decide) h.1 rfl ?_
  have h394 := h.2
  exact h394
theorem c19_in  (s : St) (Q : St → Prop) (h : calV PP 21 21 [.ref 0] s (fun s203 => calV PP 22 21 [.ref 0] s203 (fun s206 => calV PP 23 21 [.ref 0] s206 (fun s209 => calV PP 24 21 [.ref 0] s209 (fun s212 => calV PP 25 21 [.ref 0] s212 (fun s215 => Q s215)))))) : calV PP 19 21 [.ref 0] s Q := by
  refine cal_of (me := cm19) (ls := [some (.ref 0)]) rfl (Nat.le_of_ble_eq_true rfl) rfl ?_
  refine wpc_sl (n := 1) (c' := 21) (pc' := 1) (ls' := [some (.ref 0)]) (st' := [.ref 0]) (s' := s) rfl ?_
  refine wpc_callV (m' := 21) (me' := cm21) (as := []) (r := []) rfl rfl rfl rfl rfl ⟨by decide, (by first | decide | exact Nat.le_of_ble_eq_true rfl), (by first | decide | exact Nat.le_of_ble_eq_true rfl), rfl⟩ (calV.mono h fun s203 h205 => ?_)
  refine wpc_sl (n := 1) (c' := 21) (pc' := 5) (ls' := [some (.ref 0)]) (st' := [.ref 0]) (s' := s203) rfl ?_
  refine wpc_callV (m' := 22) (me' := cm22) (as := []) (r := []) rfl rfl rfl rfl rfl ⟨by decide, (by first | decide | exact Nat.le_of_ble_eq_true rfl), (by first | decide | exact Nat.le_of_ble_eq_true rfl), rfl⟩ (calV.mono h205 fun s206 h208 => ?_)
  refine wpc_sl (n := 1) (c' := 21) (pc' := 9) (ls' := [some (.ref 0)]) (st' := [.ref 0]) (s' := s206) rfl ?_
  refine wpc_callV (m' := 23) (me' := cm23) (as := []) (r := []) rfl rfl rfl rfl rfl ⟨by decide, (by first | decide | exact Nat.le_of_ble_eq_true rfl), (by first | decide | exact Nat.le_of_ble_eq_true rfl), rfl⟩ (calV.mono h208 fun s209 h211 => ?_)
  refine wpc_sl (n := 1) (c' := 21) (pc' := 13) (ls' := [some (.ref 0)]) (st' := [.ref 0]) (s' := s209) rfl ?_
  refine wpc_callV (m' := 24) (me' := cm24) (as := []) (r := []) rfl rfl rfl rfl rfl ⟨by decide, (by first | decide | exact Nat.le_of_ble_eq_true rfl), (by first | decide | exact Nat.le_of_ble_eq_true rfl), rfl⟩ (calV.mono h211 fun s212 h214 => ?_)
  refine wpc_sl (n := 1) (c' := 21) (pc' := 17) (ls' := [some (.ref 0)]) (st' := [.ref 0]) (s' := s212) rfl ?_
  refine wpc_callV (m' := 25) (me' := cm25) (as := []) (r := []) rfl rfl rfl rfl rfl ⟨by decide, (by first | decide | exact Nat.le_of_ble_eq_true rfl), (by first | decide | exact Nat.le_of_ble_eq_true rfl), rfl⟩ (calV.mono h214 fun s215 h217 => ?_)
  exact wpc_ret rfl rfl (fun q => absurd q (by decide)) rfl ⟨rfl, h217⟩
theorem c26_in  (s : St) (Q : Int64 → St → Prop) (h : wpcL PP 26 cm26 21 7 [some (.ref 0), some (.long (0 : Int64)), none, some (.int (0 : Int32)), some (.int (0 : Int32))] [] s Q) : calL PP 26 21 [.ref 0] s Q := by
  refine cal_of (me := cm26) (ls := [some (.ref 0), none, none, none, none]) rfl (Nat.le_of_ble_eq_true rfl) rfl ?_
  refine wpc_sl (n := 6) (c' := 21) (pc' := 7) (ls' := [some (.ref 0), some (.long (0 : Int64)), none, some (.int (0 : Int32)), some (.int (0 : Int32))]) (st' := []) (s' := s) rfl ?_
  exact h
theorem c26_7 (x1 : Int64) (x3 : Int32) (x4 : Int32) (s : St) (Q : Int64 → St → Prop) (h : ((x4 < (16 : Int32)) → inb 16 x4 ∧ (((gI s 21 (ix x4)) = (0 : Int32)) → wpcL PP 26 cm26 21 50 [some (.ref 0), some (.long x1), none, some (.int x3), some (.int x4)] [] s Q) ∧ (¬ ((gI s 21 (ix x4)) = (0 : Int32)) → ((x3 = (0 : Int32)) → wpcL PP 26 cm26 21 40 [some (.ref 0), none, none, none, some (.int x4)] [] s Q) ∧ (¬ (x3 = (0 : Int32)) → inb 16 x4 ∧ (((XT.cmpL (gL s 12 (ix x4)) x1) < (0 : Int32)) → wpcL PP 26 cm26 21 40 [some (.ref 0), none, none, none, some (.int x4)] [] s Q) ∧ (¬ ((XT.cmpL (gL s 12 (ix x4)) x1) < (0 : Int32)) → wpcL PP 26 cm26 21 50 [some (.ref 0), some (.long x1), none, some (.int x3), some (.int x4)] [] s Q)))) ∧ (¬ (x4 < (16 : Int32)) → Q x1 s)) : wpcL PP 26 cm26 21 7 [some (.ref 0), some (.long x1), none, some (.int x3), some (.int x4)] [] s Q := by
  refine wpc_sl (n := 2) (c' := 21) (pc' := 11) (ls' := [some (.ref 0), some (.long x1), none, some (.int x3), some (.int x4)]) (st' := [.int (16 : Int32), .int x4]) (s' := s) rfl ?_
  refine wpc_icmp (a := 56) (b := 14) rfl (by decide) rfl rfl (wpc_br (p := x4 < (16 : Int32)) ⟨fun hc395 => ?_, fun hc395 => ?_⟩)
  · have h396 := h.1 hc395
    refine wpc_sl (n := 3) (c' := 21) (pc' := 20) (ls' := [some (.ref 0), some (.long x1), none, some (.int x3), some (.int x4)]) (st' := [.int x4, .ref 21]) (s' := s) rfl ?_
    refine wpc_ldaZ (a := 20) (N := 16) (v := (gI s 21 (ix x4))) rfl rfl (by decide) h396.1 rfl ?_
    have h398 := h396.2
    refine wpc_if (a := 50) (b := 24) rfl (by decide) rfl rfl (wpc_br (p := (gI s 21 (ix x4)) = (0 : Int32)) ⟨fun hc399 => ?_, fun hc399 => ?_⟩)
    · have h400 := h398.1 hc399
      exact h400
    · have h401 := h398.2 hc399
      refine wpc_sl (n := 1) (c' := 21) (pc' := 25) (ls' := [some (.ref 0), some (.long x1), none, some (.int x3), some (.int x4)]) (st' := [.int x3]) (s' := s) rfl ?_
      refine wpc_if (a := 40) (b := 28) rfl (by decide) rfl rfl (wpc_br (p := x3 = (0 : Int32)) ⟨fun hc402 => ?_, fun hc402 => ?_⟩)
      · have h403 := h401.1 hc402
        exact wpc_lle (ls := [some (.ref 0), none, none, none, some (.int x4)]) ⟨rfl, rfl, trivial⟩ h403
      · have h404 := h401.2 hc402
        refine wpc_sl (n := 3) (c' := 21) (pc' := 34) (ls' := [some (.ref 0), some (.long x1), none, some (.int x3), some (.int x4)]) (st' := [.int x4, .ref 12]) (s' := s) rfl ?_
        refine wpc_ldaJ (a := 11) (N := 16) (v := (gL s 12 (ix x4))) rfl rfl (by decide) h404.1 rfl ?_
        have h405 := h404.2
        refine wpc_sl (n := 2) (c' := 21) (pc' := 37) (ls' := [some (.ref 0), some (.long x1), none, some (.int x3), some (.int x4)]) (st' := [.int (XT.cmpL (gL s 12 (ix x4)) x1)]) (s' := s) rfl ?_
        refine wpc_if (a := 50) (b := 40) rfl (by decide) rfl rfl (wpc_br (p := (XT.cmpL (gL s 12 (ix x4)) x1) < (0 : Int32)) ⟨fun hc406 => ?_, fun hc406 => ?_⟩)
        · have h407 := h405.1 hc406
          exact wpc_lle (ls := [some (.ref 0), none, none, none, some (.int x4)]) ⟨rfl, rfl, trivial⟩ h407
        · have h408 := h405.2 hc406
          exact h408
  · have h397 := h.2 hc395
    refine wpc_sl (n := 1) (c' := 21) (pc' := 57) (ls' := [some (.ref 0), some (.long x1), none, some (.int x3), some (.int x4)]) (st' := [.long x1]) (s' := s) rfl ?_
    exact wpc_ret rfl rfl (fun q => absurd q (by decide)) rfl ⟨x1, rfl, h397⟩
theorem c26_50 (x1 : Int64) (x3 : Int32) (x4 : Int32) (s : St) (Q : Int64 → St → Prop) (h : wpcL PP 26 cm26 21 7 [some (.ref 0), some (.long x1), none, some (.int x3), some (.int (x4 + (1 : Int32)))] [] s Q) : wpcL PP 26 cm26 21 50 [some (.ref 0), some (.long x1), none, some (.int x3), some (.int x4)] [] s Q := by
  refine wpc_sl (n := 2) (c' := 21) (pc' := 7) (ls' := [some (.ref 0), some (.long x1), none, some (.int x3), some (.int (x4 + (1 : Int32)))]) (st' := []) (s' := s) rfl ?_
  exact h
theorem c26_40 (x4 : Int32) (s : St) (Q : Int64 → St → Prop) (h : inb 16 x4 ∧ wpcL PP 26 cm26 21 50 [some (.ref 0), some (.long (gL s 12 (ix x4))), none, some (.int (1 : Int32)), some (.int x4)] [] s Q) : wpcL PP 26 cm26 21 40 [some (.ref 0), none, none, none, some (.int x4)] [] s Q := by
  refine wpc_sl (n := 3) (c' := 21) (pc' := 46) (ls' := [some (.ref 0), none, none, none, some (.int x4)]) (st' := [.int x4, .ref 12]) (s' := s) rfl ?_
  refine wpc_ldaJ (a := 11) (N := 16) (v := (gL s 12 (ix x4))) rfl rfl (by decide) h.1 rfl ?_
  have h409 := h.2
  refine wpc_sl (n := 3) (c' := 21) (pc' := 50) (ls' := [some (.ref 0), some (.long (gL s 12 (ix x4))), none, some (.int (1 : Int32)), some (.int x4)]) (st' := []) (s' := s) rfl ?_
  exact h409
theorem c28_in (a1 : Int32) (a2 : Int64) (s : St) (Q : St → Prop) (h : inb 16 a1 ∧ ∀ m411, m411 = (if (gI s 5 (ix a1)) = (1 : Int32) then (1 : Int32) else (0 : Int32)) → (((m411 = (0 : Int32)) → wpcV PP 28 cm28 21 48 [some (.ref 0), some (.int a1), some (.long a2), none, some (.int m411), some (.long (0 : Int64)), none] [] s Q) ∧ (¬ (m411 = (0 : Int32)) → inb 16 a1 ∧ (((0 : Int32) < (XT.cmpL (gL s 20 (ix a1)) (0 : Int64))) → inb 16 a1 ∧ (¬ ((gL s 20 (ix a1)) = (0 : Int64))) ∧ wpcV PP 28 cm28 21 48 [some (.ref 0), some (.int a1), some (.long a2), none, some (.int m411), some (.long ((1048576 : Int64) / (gL s 20 (ix a1)))), none] [] s Q) ∧ (¬ ((0 : Int32) < (XT.cmpL (gL s 20 (ix a1)) (0 : Int64))) → wpcV PP 28 cm28 21 48 [some (.ref 0), some (.int a1), some (.long a2), none, some (.int m411), some (.long (0 : Int64)), none] [] s Q)))) : calV PP 28 21 [.ref 0, .int a1, .long a2] s Q := by
  refine cal_of (me := cm28) (ls := [some (.ref 0), some (.int a1), some (.long a2), none, none, none, none]) rfl (Nat.le_of_ble_eq_true rfl) rfl ?_
  refine wpc_sl (n := 3) (c' := 21) (pc' := 5) (ls' := [some (.ref 0), some (.int a1), some (.long a2), none, none, none, none]) (st' := [.int a1, .ref 5]) (s' := s) rfl ?_
  refine wpc_ldaI (a := 4) (N := 16) (v := (gI s 5 (ix a1))) rfl rfl (by decide) h.1 rfl ?_
  have h410 := h.2
  refine wpc_sl (n := 1) (c' := 21) (pc' := 7) (ls' := [some (.ref 0), some (.int a1), some (.long a2), none, none, none, none]) (st' := [.int (1 : Int32), .int (gI s 5 (ix a1))]) (s' := s) rfl ?_
  have hm412 : ∀ m411, m411 = (if (gI s 5 (ix a1)) = (1 : Int32) then (1 : Int32) else (0 : Int32)) → wpcV PP 28 cm28 21 15 [some (.ref 0), some (.int a1), some (.long a2), none, none, none, none] [.int m411] s Q := by
    intro m411 em411
    have h413 := h410 m411 em411
    refine wpc_sl (n := 4) (c' := 21) (pc' := 22) (ls' := [some (.ref 0), some (.int a1), some (.long a2), none, some (.int m411), some (.long (0 : Int64)), none]) (st' := [.int m411]) (s' := s) rfl ?_
    refine wpc_if (a := 48) (b := 25) rfl (by decide) rfl rfl (wpc_br (p := m411 = (0 : Int32)) ⟨fun hc414 => ?_, fun hc414 => ?_⟩)
    · have h415 := h413.1 hc414
      exact h415
    · have h416 := h413.2 hc414
      refine wpc_sl (n := 3) (c' := 21) (pc' := 30) (ls' := [some (.ref 0), some (.int a1), some (.long a2), none, some (.int m411), some (.long (0 : Int64)), none]) (st' := [.int a1, .ref 20]) (s' := s) rfl ?_
      refine wpc_ldaJ (a := 19) (N := 16) (v := (gL s 20 (ix a1))) rfl rfl (by decide) h416.1 rfl ?_
      have h417 := h416.2
      refine wpc_sl (n := 2) (c' := 21) (pc' := 33) (ls' := [some (.ref 0), some (.int a1), some (.long a2), none, some (.int m411), some (.long (0 : Int64)), none]) (st' := [.int (XT.cmpL (gL s 20 (ix a1)) (0 : Int64))]) (s' := s) rfl ?_
      refine wpc_if (a := 48) (b := 36) rfl (by decide) rfl rfl (wpc_br (p := (0 : Int32) < (XT.cmpL (gL s 20 (ix a1)) (0 : Int64))) ⟨fun hc418 => ?_, fun hc418 => ?_⟩)
      · have h419 := h417.1 hc418
        refine wpc_sl (n := 4) (c' := 21) (pc' := 44) (ls' := [some (.ref 0), some (.int a1), some (.long a2), none, some (.int m411), some (.long (0 : Int64)), none]) (st' := [.int a1, .ref 20, .long (1048576 : Int64)]) (s' := s) rfl ?_
        refine wpc_ldaJ (a := 19) (N := 16) (v := (gL s 20 (ix a1))) rfl rfl (by decide) h419.1 rfl ?_
        have h421 := h419.2
        refine wpc_ldiv rfl h421.1 ?_
        have h422 := h421.2
        refine wpc_sl (n := 1) (c' := 21) (pc' := 48) (ls' := [some (.ref 0), some (.int a1), some (.long a2), none, some (.int m411), some (.long ((1048576 : Int64) / (gL s 20 (ix a1)))), none]) (st' := []) (s' := s) rfl ?_
        exact h422
      · have h420 := h417.2 hc418
        exact h420
  refine wpc_icmp (a := 14) (b := 10) rfl (by decide) rfl rfl (wpc_br (p := (gI s 5 (ix a1)) = (1 : Int32)) ⟨fun hc423 => ?_, fun hc423 => ?_⟩)
  · refine wpc_sl (n := 2) (c' := 21) (pc' := 15) (ls' := [some (.ref 0), some (.int a1), some (.long a2), none, none, none, none]) (st' := [.int (1 : Int32)]) (s' := s) rfl ?_
    first | exact hm412 _ (by simp only [if_pos hc423]) | exact wpc_lle (by repeat (first | exact trivial | refine ⟨rfl, ?_⟩)) (hm412 _ (by simp only [if_pos hc423]))
  · refine wpc_sl (n := 1) (c' := 21) (pc' := 15) (ls' := [some (.ref 0), some (.int a1), some (.long a2), none, none, none, none]) (st' := [.int (0 : Int32)]) (s' := s) rfl ?_
    first | exact hm412 _ (by simp only [if_neg hc423]) | exact wpc_lle (by repeat (first | exact trivial | refine ⟨rfl, ?_⟩)) (hm412 _ (by simp only [if_neg hc423]))
theorem c28_48 (x1 : Int32) (x2 : Int64) (x4 : Int32) (x5 : Int64) (s : St) (Q : St → Prop) (h : inb 16 x1 ∧ (((gI s 21 (ix x1)) = (0 : Int32)) → ((x4 = (0 : Int32)) → Q s) ∧ (¬ (x4 = (0 : Int32)) → inb 16 x1 ∧ (((0 : Int32) < (XT.cmpL (gL s 15 (ix x1)) (0 : Int64))) → inb 16 x1 ∧ inb 16 x1 ∧ (¬ ((gL s 15 (ix x1)) = (0 : Int64))) ∧ inb 16 x1 ∧ wpcV PP 28 cm28 21 204 [some (.ref 0), some (.int x1), none, none, none, some (.long x5), none] [] (sL s 12 (ix x1) (((gL s 14 (ix x1)) * x5) / (gL s 15 (ix x1)))) Q) ∧ (¬ ((0 : Int32) < (XT.cmpL (gL s 15 (ix x1)) (0 : Int64))) → inb 16 x1 ∧ wpcV PP 28 cm28 21 204 [some (.ref 0), some (.int x1), none, none, none, some (.long x5), none] [] (sL s 12 (ix x1) x5) Q))) ∧ (¬ ((gI s 21 (ix x1)) = (0 : Int32)) → ((x4 = (0 : Int32)) → inb 16 x1 ∧ inb 16 x1 ∧ inb 16 x1 ∧ inb 16 x1 ∧ inb 16 x1 ∧ inb 16 x1 ∧ Q (sL (sL (sL (sL s 14 (ix x1) ((gL s 12 (ix x1)) - x2)) 15 (ix x1) (gL s 13 (ix x1))) 12 (ix x1) (0 : Int64)) 13 (ix x1) (0 : Int64))) ∧ (¬ (x4 = (0 : Int32)) → inb 16 x1 ∧ (((0 : Int32) < (XT.cmpL (gL s 13 (ix x1)) (0 : Int64))) → inb 16 x1 ∧ inb 16 x1 ∧ (¬ ((gL s 13 (ix x1)) = (0 : Int64))) ∧ wpcV PP 28 cm28 21 100 [some (.ref 0), some (.int x1), none, none, none, some (.long x5), none] [.long ((((gL s 12 (ix x1)) - x2) * x5) / (gL s 13 (ix x1))), .int x1, .ref 12] s Q) ∧ (¬ ((0 : Int32) < (XT.cmpL (gL s 13 (ix x1)) (0 : Int64))) → wpcV PP 28 cm28 21 100 [some (.ref 0), some (.int x1), none, none, none, some (.long x5), none] [.long (0 : Int64), .int x1, .ref 12] s Q)))) : wpcV PP 28 cm28 21 48 [some (.ref 0), some (.int x1), some (.long x2), none, some (.int x4), some (.long x5), none] [] s Q := by
  refine wpc_sl (n := 3) (c' := 21) (pc' := 53) (ls' := [some (.ref 0), some (.int x1), some (.long x2), none, some (.int x4), some (.long x5), none]) (st' := [.int x1, .ref 21]) (s' := s) rfl ?_
  refine wpc_ldaZ (a := 20) (N := 16) (v := (gI s 21 (ix x1))) rfl rfl (by decide) h.1 rfl ?_
  have h424 := h.2
  refine wpc_if (a := 155) (b := 57) rfl (by decide) rfl rfl (wpc_br (p := (gI s 21 (ix x1)) = (0 : Int32)) ⟨fun hc425 => ?_, fun hc425 => ?_⟩)
  · have h426 := h424.1 hc425
    refine wpc_sl (n := 1) (c' := 21) (pc' := 157) (ls' := [some (.ref 0), some (.int x1), some (.long x2), none, some (.int x4), some (.long x5), none]) (st' := [.int x4]) (s' := s) rfl ?_
    refine wpc_if (a := 212) (b := 160) rfl (by decide) rfl rfl (wpc_br (p := x4 = (0 : Int32)) ⟨fun hc428 => ?_, fun hc428 => ?_⟩)
    · have h429 := h426.1 hc428
      exact wpc_ret rfl rfl (fun q => absurd q (by decide)) rfl ⟨rfl, h429⟩
    · have h430 := h426.2 hc428
      refine wpc_sl (n := 3) (c' := 21) (pc' := 165) (ls' := [some (.ref 0), some (.int x1), some (.long x2), none, some (.int x4), some (.long x5), none]) (st' := [.int x1, .ref 15]) (s' := s) rfl ?_
      refine wpc_ldaJ (a := 14) (N := 16) (v := (gL s 15 (ix x1))) rfl rfl (by decide) h430.1 rfl ?_
      have h431 := h430.2
      refine wpc_sl (n := 2) (c' := 21) (pc' := 168) (ls' := [some (.ref 0), some (.int x1), some (.long x2), none, some (.int x4), some (.long x5), none]) (st' := [.int (XT.cmpL (gL s 15 (ix x1)) (0 : Int64))]) (s' := s) rfl ?_
      refine wpc_if (a := 182) (b := 171) rfl (by decide) rfl rfl (wpc_br (p := (0 : Int32) < (XT.cmpL (gL s 15 (ix x1)) (0 : Int64))) ⟨fun hc432 => ?_, fun hc432 => ?_⟩)
      · have h433 := h431.1 hc432
        refine wpc_sl (n := 6) (c' := 21) (pc' := 192) (ls' := [some (.ref 0), some (.int x1), some (.long x2), none, some (.int x4), some (.long x5), none]) (st' := [.int x1, .ref 14, .int x1, .ref 12]) (s' := s) rfl ?_
        refine wpc_ldaJ (a := 13) (N := 16) (v := (gL s 14 (ix x1))) rfl rfl (by decide) h433.1 rfl ?_
        have h435 := h433.2
        refine wpc_sl (n := 5) (c' := 21) (pc' := 201) (ls' := [some (.ref 0), some (.int x1), some (.long x2), none, some (.int x4), some (.long x5), none]) (st' := [.int x1, .ref 15, .long ((gL s 14 (ix x1)) * x5), .int x1, .ref 12]) (s' := s) rfl ?_
        refine wpc_ldaJ (a := 14) (N := 16) (v := (gL s 15 (ix x1))) rfl rfl (by decide) h435.1 rfl ?_
        have h436 := h435.2
        refine wpc_ldiv rfl h436.1 ?_
        have h437 := h436.2
        refine wpc_staJ (a := 11) (N := 16) (s' := (sL s 12 (ix x1) (((gL s 14 (ix x1)) * x5) / (gL s 15 (ix x1))))) rfl rfl (by decide) h437.1 rfl ?_
        have h438 := h437.2
        exact wpc_lle (ls := [some (.ref 0), some (.int x1), none, none, none, some (.long x5), none]) ⟨rfl, rfl, rfl, trivial⟩ h438
      · have h434 := h431.2 hc432
        refine wpc_sl (n := 4) (c' := 21) (pc' := 178) (ls' := [some (.ref 0), some (.int x1), some (.long x2), none, some (.int x4), some (.long x5), none]) (st' := [.long x5, .int x1, .ref 12]) (s' := s) rfl ?_
        refine wpc_staJ (a := 11) (N := 16) (s' := (sL s 12 (ix x1) x5)) rfl rfl (by decide) h434.1 rfl ?_
        have h439 := h434.2
        refine wpc_sl (n := 1) (c' := 21) (pc' := 204) (ls' := [some (.ref 0), some (.int x1), some (.long x2), none, some (.int x4), some (.long x5), none]) (st' := []) (s' := (sL s 12 (ix x1) x5)) rfl ?_
        exact wpc_lle (ls := [some (.ref 0), some (.int x1), none, none, none, some (.long x5), none]) ⟨rfl, rfl, rfl, trivial⟩ h439
  · have h427 := h424.2 hc425
    refine wpc_sl (n := 1) (c' := 21) (pc' := 59) (ls' := [some (.ref 0), some (.int x1), some (.long x2), none, some (.int x4), some (.long x5), none]) (st' := [.int x4]) (s' := s) rfl ?_
    refine wpc_if (a := 112) (b := 62) rfl (by decide) rfl rfl (wpc_br (p := x4 = (0 : Int32)) ⟨fun hc440 => ?_, fun hc440 => ?_⟩)
    · have h441 := h427.1 hc440
      refine wpc_sl (n := 6) (c' := 21) (pc' := 122) (ls' := [some (.ref 0), some (.int x1), some (.long x2), none, some (.int x4), some (.long x5), none]) (st' := [.int x1, .ref 12, .int x1, .ref 14]) (s' := s) rfl ?_
      refine wpc_ldaJ (a := 11) (N := 16) (v := (gL s 12 (ix x1))) rfl rfl (by decide) h441.1 rfl ?_
      have h443 := h441.2
      refine wpc_sl (n := 2) (c' := 21) (pc' := 125) (ls' := [some (.ref 0), some (.int x1), some (.long x2), none, some (.int x4), some (.long x5), none]) (st' := [.long ((gL s 12 (ix x1)) - x2), .int x1, .ref 14]) (s' := s) rfl ?_
      refine wpc_staJ (a := 13) (N := 16) (s' := (sL s 14 (ix x1) ((gL s 12 (ix x1)) - x2))) rfl rfl (by decide) h443.1 rfl ?_
      have h444 := h443.2
      refine wpc_sl (n := 6) (c' := 21) (pc' := 136) (ls' := [some (.ref 0), some (.int x1), some (.long x2), none, some (.int x4), some (.long x5), none]) (st' := [.int x1, .ref 13, .int x1, .ref 15]) (s' := (sL s 14 (ix x1) ((gL s 12 (ix x1)) - x2))) rfl ?_
      refine wpc_ldaJ (a := 12) (N := 16) (v := (gL s 13 (ix x1))) rfl rfl (by decide) h444.1 rfl ?_
      have h445 := h444.2
      refine wpc_staJ (a := 14) (N := 16) (s' := (sL (sL s 14 (ix x1) ((gL s 12 (ix x1)) - x2)) 15 (ix x1) (gL s 13 (ix x1)))) rfl rfl (by decide) h445.1 rfl ?_
      have h446 := h445.2
      refine wpc_sl (n := 4) (c' := 21) (pc' := 144) (ls' := [some (.ref 0), some (.int x1), some (.long x2), none, some (.int x4), some (.long x5), none]) (st' := [.long (0 : Int64), .int x1, .ref 12]) (s' := (sL (sL s 14 (ix x1) ((gL s 12 (ix x1)) - x2)) 15 (ix x1) (gL s 13 (ix x1)))) rfl ?_
      refine wpc_staJ (a := 11) (N := 16) (s' := (sL (sL (sL s 14 (ix x1) ((gL s 12 (ix x1)) - x2)) 15 (ix x1) (gL s 13 (ix x1))) 12 (ix x1) (0 : Int64))) rfl rfl (by decide) h446.1 rfl ?_
      have h447 := h446.2
      refine wpc_sl (n := 4) (c' := 21) (pc' := 151) (ls' := [some (.ref 0), some (.int x1), some (.long x2), none, some (.int x4), some (.long x5), none]) (st' := [.long (0 : Int64), .int x1, .ref 13]) (s' := (sL (sL (sL s 14 (ix x1) ((gL s 12 (ix x1)) - x2)) 15 (ix x1) (gL s 13 (ix x1))) 12 (ix x1) (0 : Int64))) rfl ?_
      refine wpc_staJ (a := 12) (N := 16) (s' := (sL (sL (sL (sL s 14 (ix x1) ((gL s 12 (ix x1)) - x2)) 15 (ix x1) (gL s 13 (ix x1))) 12 (ix x1) (0 : Int64)) 13 (ix x1) (0 : Int64))) rfl rfl (by decide) h447.1 rfl ?_
      have h448 := h447.2
      refine wpc_sl (n := 1) (c' := 21) (pc' := 212) (ls' := [some (.ref 0), some (.int x1), some (.long x2), none, some (.int x4), some (.long x5), none]) (st' := []) (s' := (sL (sL (sL (sL s 14 (ix x1) ((gL s 12 (ix x1)) - x2)) 15 (ix x1) (gL s 13 (ix x1))) 12 (ix x1) (0 : Int64)) 13 (ix x1) (0 : Int64))) rfl ?_
      exact wpc_ret rfl rfl (fun q => absurd q (by decide)) rfl ⟨rfl, h448⟩
    · have h442 := h427.2 hc440
      refine wpc_sl (n := 6) (c' := 21) (pc' := 72) (ls' := [some (.ref 0), some (.int x1), some (.long x2), none, some (.int x4), some (.long x5), none]) (st' := [.int x1, .ref 13, .int x1, .ref 12]) (s' := s) rfl ?_
      refine wpc_ldaJ (a := 12) (N := 16) (v := (gL s 13 (ix x1))) rfl rfl (by decide) h442.1 rfl ?_
      have h449 := h442.2
      refine wpc_sl (n := 2) (c' := 21) (pc' := 75) (ls' := [some (.ref 0), some (.int x1), some (.long x2), none, some (.int x4), some (.long x5), none]) (st' := [.int (XT.cmpL (gL s 13 (ix x1)) (0 : Int64)), .int x1, .ref 12]) (s' := s) rfl ?_
      refine wpc_if (a := 99) (b := 78) rfl (by decide) rfl rfl (wpc_br (p := (0 : Int32) < (XT.cmpL (gL s 13 (ix x1)) (0 : Int64))) ⟨fun hc450 => ?_, fun hc450 => ?_⟩)
      · have h451 := h449.1 hc450
        refine wpc_sl (n := 3) (c' := 21) (pc' := 83) (ls' := [some (.ref 0), some (.int x1), some (.long x2), none, some (.int x4), some (.long x5), none]) (st' := [.int x1, .ref 12, .int x1, .ref 12]) (s' := s) rfl ?_
        refine wpc_ldaJ (a := 11) (N := 16) (v := (gL s 12 (ix x1))) rfl rfl (by decide) h451.1 rfl ?_
        have h453 := h451.2
        refine wpc_sl (n := 7) (c' := 21) (pc' := 94) (ls' := [some (.ref 0), some (.int x1), some (.long x2), none, some (.int x4), some (.long x5), none]) (st' := [.int x1, .ref 13, .long (((gL s 12 (ix x1)) - x2) * x5), .int x1, .ref 12]) (s' := s) rfl ?_
        refine wpc_ldaJ (a := 12) (N := 16) (v := (gL s 13 (ix x1))) rfl rfl (by decide) h453.1 rfl ?_
        have h454 := h453.2
        refine wpc_ldiv rfl h454.1 ?_
        have h455 := h454.2
        refine wpc_sl (n := 1) (c' := 21) (pc' := 100) (ls' := [some (.ref 0), some (.int x1), some (.long x2), none, some (.int x4), some (.long x5), none]) (st' := [.long ((((gL s 12 (ix x1)) - x2) * x5) / (gL s 13 (ix x1))), .int x1, .ref 12]) (s' := s) rfl ?_
        exact wpc_lle (ls := [some (.ref 0), some (.int x1), none, none, none, some (.long x5), none]) ⟨rfl, rfl, rfl, trivial⟩ h455
      · have h452 := h449.2 hc450
        refine wpc_sl (n := 1) (c' := 21) (pc' := 100) (ls' := [some (.ref 0), some (.int x1), some (.long x2), none, some (.int x4), some (.long x5), none]) (st' := [.long (0 : Int64), .int x1, .ref 12]) (s' := s) rfl ?_
        exact wpc_lle (ls := [some (.ref 0), some (.int x1), none, none, none, some (.long x5), none]) ⟨rfl, rfl, rfl, trivial⟩ h452
theorem c28_204 (x1 : Int32) (x5 : Int64) (s : St) (Q : St → Prop) (h : inb 16 x1 ∧ Q (sL s 13 (ix x1) x5)) : wpcV PP 28 cm28 21 204 [some (.ref 0), some (.int x1), none, none, none, some (.long x5), none] [] s Q := by
  refine wpc_sl (n := 4) (c' := 21) (pc' := 211) (ls' := [some (.ref 0), some (.int x1), none, none, none, some (.long x5), none]) (st' := [.long x5, .int x1, .ref 13]) (s' := s) rfl ?_
  refine wpc_staJ (a := 12) (N := 16) (s' := (sL s 13 (ix x1) x5)) rfl rfl (by decide) h.1 rfl ?_
  have h456 := h.2
  exact wpc_ret rfl rfl (fun q => absurd q (by decide)) rfl ⟨rfl, h456⟩
theorem c28_100 (x1 : Int32) (x5 : Int64) (y0 : Int64) (y1 : Int32) (s : St) (Q : St → Prop) (h : inb 16 y1 ∧ inb 16 x1 ∧ Q (sL (sL s 12 (ix y1) y0) 13 (ix x1) x5)) : wpcV PP 28 cm28 21 100 [some (.ref 0), some (.int x1), none, none, none, some (.long x5), none] [.long y0, .int y1, .ref 12] s Q := by
  refine wpc_staJ (a := 11) (N := 16) (s' := (sL s 12 (ix y1) y0)) rfl rfl (by decide) h.1 rfl ?_
  have h457 := h.2
  refine wpc_sl (n := 4) (c' := 21) (pc' := 108) (ls' := [some (.ref 0), some (.int x1), none, none, none, some (.long x5), none]) (st' := [.long x5, .int x1, .ref 13]) (s' := (sL s 12 (ix y1) y0)) rfl ?_
  refine wpc_staJ (a := 12) (N := 16) (s' := (sL (sL s 12 (ix y1) y0) 13 (ix x1) x5)) rfl rfl (by decide) h457.1 rfl ?_
  have h458 := h457.2
  refine wpc_sl (n := 1) (c' := 21) (pc' := 212) (ls' := [some (.ref 0), some (.int x1), none, none, none, some (.long x5), none]) (st' := []) (s' := (sL (sL s 12 (ix y1) y0) 13 (ix x1) x5)) rfl ?_
  exact wpc_ret rfl rfl (fun q => absurd q (by decide)) rfl ⟨rfl, h458⟩
theorem c27_in  (s : St) (Q : St → Prop) (h : calV PP 19 21 [.ref 0] s (fun s184 => calL PP 26 21 [.ref 0] s184 (fun v188 s187 => wpcV PP 27 cm27 21 11 [some (.ref 0), some (.long v188), none, some (.int (0 : Int32))] [] s187 Q))) : calV PP 27 21 [.ref 0] s Q := by
  refine cal_of (me := cm27) (ls := [some (.ref 0), none, none, none]) rfl (Nat.le_of_ble_eq_true rfl) rfl ?_
  refine wpc_sl (n := 1) (c' := 21) (pc' := 1) (ls' := [some (.ref 0), none, none, none]) (st' := [.ref 0]) (s' := s) rfl ?_
  refine wpc_callV (m' := 19) (me' := cm19) (as := []) (r := []) rfl rfl rfl rfl rfl ⟨by decide, (by first | decide | exact Nat.le_of_ble_eq_true rfl), (by first | decide | exact Nat.le_of_ble_eq_true rfl), rfl⟩ (calV.mono h fun s184 h186 => ?_)
  refine wpc_sl (n := 1) (c' := 21) (pc' := 5) (ls' := [some (.ref 0), none, none, none]) (st' := [.ref 0]) (s' := s184) rfl ?_
  refine wpc_callL (m' := 26) (me' := cm26) (as := []) (r := []) rfl rfl rfl rfl rfl ⟨by decide, (by first | decide | exact Nat.le_of_ble_eq_true rfl), (by first | decide | exact Nat.le_of_ble_eq_true rfl), rfl⟩ (calL.mono h186 fun v188 s187 h189 => ?_)
  refine wpc_sl (n := 3) (c' := 21) (pc' := 11) (ls' := [some (.ref 0), some (.long v188), none, some (.int (0 : Int32))]) (st' := []) (s' := s187) rfl ?_
  exact h189
theorem c27_11 (x1 : Int64) (x3 : Int32) (s : St) (Q : St → Prop) (h : ((x3 < (16 : Int32)) → ((x3 < (gI s 0 41)) → calV PP 28 21 [.ref 0, .int x3, .long x1] s (fun s196 => wpcV PP 27 cm27 21 31 [some (.ref 0), some (.long x1), none, some (.int x3)] [] s196 Q)) ∧ (¬ (x3 < (gI s 0 41)) → wpcV PP 27 cm27 21 31 [some (.ref 0), some (.long x1), none, some (.int x3)] [] s Q)) ∧ (¬ (x3 < (16 : Int32)) → wpcV PP 27 cm27 21 39 [some (.ref 0), none, none, some (.int (0 : Int32))] [] s Q)) : wpcV PP 27 cm27 21 11 [some (.ref 0), some (.long x1), none, some (.int x3)] [] s Q := by
  refine wpc_sl (n := 2) (c' := 21) (pc' := 14) (ls' := [some (.ref 0), some (.long x1), none, some (.int x3)]) (st' := [.int (16 : Int32), .int x3]) (s' := s) rfl ?_
  refine wpc_icmp (a := 37) (b := 17) rfl (by decide) rfl rfl (wpc_br (p := x3 < (16 : Int32)) ⟨fun hc190 => ?_, fun hc190 => ?_⟩)
  · have h191 := h.1 hc190
    refine wpc_sl (n := 3) (c' := 21) (pc' := 22) (ls' := [some (.ref 0), some (.long x1), none, some (.int x3)]) (st' := [.int (gI s 0 41), .int x3]) (s' := s) rfl ?_
    refine wpc_icmp (a := 31) (b := 25) rfl (by decide) rfl rfl (wpc_br (p := x3 < (gI s 0 41)) ⟨fun hc193 => ?_, fun hc193 => ?_⟩)
    · have h194 := h191.1 hc193
      refine wpc_sl (n := 3) (c' := 21) (pc' := 28) (ls' := [some (.ref 0), some (.long x1), none, some (.int x3)]) (st' := [.long x1, .int x3, .ref 0]) (s' := s) rfl ?_
      refine wpc_callV (m' := 28) (me' := cm28) (as := [.int x3, .long x1]) (r := []) rfl rfl rfl rfl rfl ⟨by decide, (by first | decide | exact Nat.le_of_ble_eq_true rfl), (by first | decide | exact Nat.le_of_ble_eq_true rfl), rfl⟩ (calV.mono h194 fun s196 h198 => ?_)
      exact h198
    · have h195 := h191.2 hc193
      exact h195
  · have h192 := h.2 hc190
    refine wpc_sl (n := 2) (c' := 21) (pc' := 39) (ls' := [some (.ref 0), some (.long x1), none, some (.int (0 : Int32))]) (st' := []) (s' := s) rfl ?_
    exact wpc_lle (ls := [some (.ref 0), none, none, some (.int (0 : Int32))]) ⟨rfl, rfl, trivial⟩ h192
theorem c27_31 (x1 : Int64) (x3 : Int32) (s : St) (Q : St → Prop) (h : wpcV PP 27 cm27 21 11 [some (.ref 0), some (.long x1), none, some (.int (x3 + (1 : Int32)))] [] s Q) : wpcV PP 27 cm27 21 31 [some (.ref 0), some (.long x1), none, some (.int x3)] [] s Q := by
  refine wpc_sl (n := 2) (c' := 21) (pc' := 11) (ls' := [some (.ref 0), some (.long x1), none, some (.int (x3 + (1 : Int32)))]) (st' := []) (s' := s) rfl ?_
  exact h
theorem c27_39 (x3 : Int32) (s : St) (Q : St → Prop) (h : ((x3 < (16 : Int32)) → inb 16 x3 ∧ wpcV PP 27 cm27 21 39 [some (.ref 0), none, none, some (.int (x3 + (1 : Int32)))] [] (sI s 9 (ix x3) (0 : Int32)) Q) ∧ (¬ (x3 < (16 : Int32)) → Q (sI s 0 42 ((gI s 0 42) + (1 : Int32))))) : wpcV PP 27 cm27 21 39 [some (.ref 0), none, none, some (.int x3)] [] s Q := by
  refine wpc_sl (n := 2) (c' := 21) (pc' := 42) (ls' := [some (.ref 0), none, none, some (.int x3)]) (st' := [.int (16 : Int32), .int x3]) (s' := s) rfl ?_
  refine wpc_icmp (a := 58) (b := 45) rfl (by decide) rfl rfl (wpc_br (p := x3 < (16 : Int32)) ⟨fun hc199 => ?_, fun hc199 => ?_⟩)
  · have h200 := h.1 hc199
    refine wpc_sl (n := 4) (c' := 21) (pc' := 51) (ls' := [some (.ref 0), none, none, some (.int x3)]) (st' := [.int (0 : Int32), .int x3, .ref 9]) (s' := s) rfl ?_
    refine wpc_staI (a := 8) (N := 16) (s' := (sI s 9 (ix x3) (0 : Int32))) rfl rfl (by decide) h200.1 rfl ?_
    have h202 := h200.2
    refine wpc_sl (n := 2) (c' := 21) (pc' := 39) (ls' := [some (.ref 0), none, none, some (.int (x3 + (1 : Int32)))]) (st' := []) (s' := (sI s 9 (ix x3) (0 : Int32))) rfl ?_
    exact h202
  · have h201 := h.2 hc199
    refine wpc_sl (n := 6) (c' := 21) (pc' := 68) (ls' := [some (.ref 0), none, none, some (.int x3)]) (st' := []) (s' := (sI s 0 42 ((gI s 0 42) + (1 : Int32)))) rfl ?_
    exact wpc_ret rfl rfl (fun q => absurd q (by decide)) rfl ⟨rfl, h201⟩
theorem c3_in (a1 : Int32) (a2 : Int32) (s : St) (Q : Int32 → St → Prop) (h : ((a1 < (0 : Int32)) → Q (-3 : Int32) s) ∧ (¬ (a1 < (0 : Int32)) → ((a1 < (gI s 0 40)) → calI PP 13 21 [.ref 0, .int a2] s (fun v146 s145 => ((v146 = (0 : Int32)) → Q (-2 : Int32) s145) ∧ (¬ (v146 = (0 : Int32)) → (((gI s145 0 41) < (16 : Int32)) → calV PP 18 21 [.ref 0] s145 (fun s154 => inb 16 (gI s154 0 41) ∧ inb 16 (gI s154 0 41) ∧ inb 16 (gI s154 0 41) ∧ inb 16 (gI s154 0 41) ∧ inb 16 (gI s154 0 41) ∧ inb 16 (gI s154 0 41) ∧ inb 16 (gI s154 0 41) ∧ inb 16 (gI s154 0 41) ∧ inb 16 (gI s154 0 41) ∧ inb 16 (gI s154 0 41) ∧ inb 16 (gI s154 0 41) ∧ calV PP 27 21 [.ref 0] (sI (sI (sI (sL (sL (sL (sL (sL (sI (sI (sI (sI s154 5 (ix (gI s154 0 41)) (1 : Int32)) 6 (ix (gI s154 0 41)) a1) 7 (ix (gI s154 0 41)) a2) 8 (ix (gI s154 0 41)) (-1 : Int32)) 11 (ix (gI s154 0 41)) (0 : Int64)) 12 (ix (gI s154 0 41)) (0 : Int64)) 13 (ix (gI s154 0 41)) (0 : Int64)) 14 (ix (gI s154 0 41)) (0 : Int64)) 15 (ix (gI s154 0 41)) (0 : Int64)) 9 (ix (gI s154 0 41)) (0 : Int32)) 10 (ix (gI s154 0 41)) (0 : Int32)) 0 41 ((gI s154 0 41) + (1 : Int32))) (fun s168 => Q (gI s154 0 41) s168))) ∧ (¬ ((gI s145 0 41) < (16 : Int32)) → Q (-5 : Int32) s145)))) ∧ (¬ (a1 < (gI s 0 40)) → Q (-3 : Int32) s))) : calI PP 3 21 [.ref 0, .int a1, .int a2] s Q := by
  refine cal_of (me := cm3) (ls := [some (.ref 0), some (.int a1), some (.int a2), none]) rfl (Nat.le_of_ble_eq_true rfl) rfl ?_
  refine wpc_sl (n := 1) (c' := 21) (pc' := 1) (ls' := [some (.ref 0), some (.int a1), some (.int a2), none]) (st' := [.int a1]) (s' := s) rfl ?_
  refine wpc_if (a := 12) (b := 4) rfl (by decide) rfl rfl (wpc_br (p := a1 < (0 : Int32)) ⟨fun hc139 => ?_, fun hc139 => ?_⟩)
  · have h140 := h.1 hc139
    refine wpc_sl (n := 1) (c' := 21) (pc' := 14) (ls' := [some (.ref 0), some (.int a1), some (.int a2), none]) (st' := [.int (-3 : Int32)]) (s' := s) rfl ?_
    exact wpc_ret rfl rfl (fun q => absurd q (by decide)) rfl ⟨(-3 : Int32), rfl, h140⟩
  · have h141 := h.2 hc139
    refine wpc_sl (n := 3) (c' := 21) (pc' := 9) (ls' := [some (.ref 0), some (.int a1), some (.int a2), none]) (st' := [.int (gI s 0 40), .int a1]) (s' := s) rfl ?_
    refine wpc_icmp (a := 15) (b := 12) rfl (by decide) rfl rfl (wpc_br (p := a1 < (gI s 0 40)) ⟨fun hc142 => ?_, fun hc142 => ?_⟩)
    · have h143 := h141.1 hc142
      refine wpc_sl (n := 2) (c' := 21) (pc' := 17) (ls' := [some (.ref 0), some (.int a1), some (.int a2), none]) (st' := [.int a2, .ref 0]) (s' := s) rfl ?_
      refine wpc_callI (m' := 13) (me' := cm13) (as := [.int a2]) (r := []) rfl rfl rfl rfl rfl ⟨by decide, (by first | decide | exact Nat.le_of_ble_eq_true rfl), (by first | decide | exact Nat.le_of_ble_eq_true rfl), rfl⟩ (calI.mono h143 fun v146 s145 h147 => ?_)
      refine wpc_if (a := 26) (b := 23) rfl (by decide) rfl rfl (wpc_br (p := v146 = (0 : Int32)) ⟨fun hc148 => ?_, fun hc148 => ?_⟩)
      · have h149 := h147.1 hc148
        refine wpc_sl (n := 1) (c' := 21) (pc' := 25) (ls' := [some (.ref 0), some (.int a1), some (.int a2), none]) (st' := [.int (-2 : Int32)]) (s' := s145) rfl ?_
        exact wpc_ret rfl rfl (fun q => absurd q (by decide)) rfl ⟨(-2 : Int32), rfl, h149⟩
      · have h150 := h147.2 hc148
        refine wpc_sl (n := 3) (c' := 21) (pc' := 32) (ls' := [some (.ref 0), some (.int a1), some (.int a2), none]) (st' := [.int (16 : Int32), .int (gI s145 0 41)]) (s' := s145) rfl ?_
        refine wpc_icmp (a := 38) (b := 35) rfl (by decide) rfl rfl (wpc_br (p := (gI s145 0 41) < (16 : Int32)) ⟨fun hc151 => ?_, fun hc151 => ?_⟩)
        · have h152 := h150.1 hc151
          refine wpc_sl (n := 1) (c' := 21) (pc' := 39) (ls' := [some (.ref 0), some (.int a1), some (.int a2), none]) (st' := [.ref 0]) (s' := s145) rfl ?_
          refine wpc_callV (m' := 18) (me' := cm18) (as := []) (r := []) rfl rfl rfl rfl rfl ⟨by decide, (by first | decide | exact Nat.le_of_ble_eq_true rfl), (by first | decide | exact Nat.le_of_ble_eq_true rfl), rfl⟩ (calV.mono h152 fun s154 h156 => ?_)
          refine wpc_sl (n := 7) (c' := 21) (pc' := 53) (ls' := [some (.ref 0), some (.int a1), some (.int a2), some (.int (gI s154 0 41))]) (st' := [.int (1 : Int32), .int (gI s154 0 41), .ref 5]) (s' := s154) rfl ?_
          refine wpc_staI (a := 4) (N := 16) (s' := (sI s154 5 (ix (gI s154 0 41)) (1 : Int32))) rfl rfl (by decide) h156.1 rfl ?_
          have h157 := h156.2
          refine wpc_sl (n := 4) (c' := 21) (pc' := 60) (ls' := [some (.ref 0), some (.int a1), some (.int a2), some (.int (gI s154 0 41))]) (st' := [.int a1, .int (gI s154 0 41), .ref 6]) (s' := (sI s154 5 (ix (gI s154 0 41)) (1 : Int32))) rfl ?_
          refine wpc_staI (a := 5) (N := 16) (s' := (sI (sI s154 5 (ix (gI s154 0 41)) (1 : Int32)) 6 (ix (gI s154 0 41)) a1)) rfl rfl (by decide) h157.1 rfl ?_
          have h158 := h157.2
          refine wpc_sl (n := 4) (c' := 21) (pc' := 67) (ls' := [some (.ref 0), some (.int a1), some (.int a2), some (.int (gI s154 0 41))]) (st' := [.int a2, .int (gI s154 0 41), .ref 7]) (s' := (sI (sI s154 5 (ix (gI s154 0 41)) (1 : Int32)) 6 (ix (gI s154 0 41)) a1)) rfl ?_
          refine wpc_staI (a := 6) (N := 16) (s' := (sI (sI (sI s154 5 (ix (gI s154 0 41)) (1 : Int32)) 6 (ix (gI s154 0 41)) a1) 7 (ix (gI s154 0 41)) a2)) rfl rfl (by decide) h158.1 rfl ?_
          have h159 := h158.2
          refine wpc_sl (n := 4) (c' := 21) (pc' := 74) (ls' := [some (.ref 0), some (.int a1), some (.int a2), some (.int (gI s154 0 41))]) (st' := [.int (-1 : Int32), .int (gI s154 0 41), .ref 8]) (s' := (sI (sI (sI s154 5 (ix (gI s154 0 41)) (1 : Int32)) 6 (ix (gI s154 0 41)) a1) 7 (ix (gI s154 0 41)) a2)) rfl ?_
          refine wpc_staI (a := 7) (N := 16) (s' := (sI (sI (sI (sI s154 5 (ix (gI s154 0 41)) (1 : Int32)) 6 (ix (gI s154 0 41)) a1) 7 (ix (gI s154 0 41)) a2) 8 (ix (gI s154 0 41)) (-1 : Int32))) rfl rfl (by decide) h159.1 rfl ?_
          have h160 := h159.2
          refine wpc_sl (n := 4) (c' := 21) (pc' := 81) (ls' := [some (.ref 0), some (.int a1), some (.int a2), some (.int (gI s154 0 41))]) (st' := [.long (0 : Int64), .int (gI s154 0 41), .ref 11]) (s' := (sI (sI (sI (sI s154 5 (ix (gI s154 0 41)) (1 : Int32)) 6 (ix (gI s154 0 41)) a1) 7 (ix (gI s154 0 41)) a2) 8 (ix (gI s154 0 41)) (-1 : Int32))) rfl ?_
          refine wpc_staJ (a := 10) (N := 16) (s' := (sL (sI (sI (sI (sI s154 5 (ix (gI s154 0 41)) (1 : Int32)) 6 (ix (gI s154 0 41)) a1) 7 (ix (gI s154 0 41)) a2) 8 (ix (gI s154 0 41)) (-1 : Int32)) 11 (ix (gI s154 0 41)) (0 : Int64))) rfl rfl (by decide) h160.1 rfl ?_
          have h161 := h160.2
          refine wpc_sl (n := 4) (c' := 21) (pc' := 88) (ls' := [some (.ref 0), some (.int a1), some (.int a2), some (.int (gI s154 0 41))]) (st' := [.long (0 : Int64), .int (gI s154 0 41), .ref 12]) (s' := (sL (sI (sI (sI (sI s154 5 (ix (gI s154 0 41)) (1 : Int32)) 6 (ix (gI s154 0 41)) a1) 7 (ix (gI s154 0 41)) a2) 8 (ix (gI s154 0 41)) (-1 : Int32)) 11 (ix (gI s154 0 41)) (0 : Int64))) rfl ?_
          refine wpc_staJ (a := 11) (N := 16) (s' := (sL (sL (sI (sI (sI (sI s154 5 (ix (gI s154 0 41)) (1 : Int32)) 6 (ix (gI s154 0 41)) a1) 7 (ix (gI s154 0 41)) a2) 8 (ix (gI s154 0 41)) (-1 : Int32)) 11 (ix (gI s154 0 41)) (0 : Int64)) 12 (ix (gI s154 0 41)) (0 : Int64))) rfl rfl (by decide) h161.1 rfl ?_
          have h162 := h161.2
          refine wpc_sl (n := 4) (c' := 21) (pc' := 95) (ls' := [some (.ref 0), some (.int a1), some (.int a2), some (.int (gI s154 0 41))]) (st' := [.long (0 : Int64), .int (gI s154 0 41), .ref 13]) (s' := (sL (sL (sI (sI (sI (sI s154 5 (ix (gI s154 0 41)) (1 : Int32)) 6 (ix (gI s154 0 41)) a1) 7 (ix (gI s154 0 41)) a2) 8 (ix (gI s154 0 41)) (-1 : Int32)) 11 (ix (gI s154 0 41)) (0 : Int64)) 12 (ix (gI s154 0 41)) (0 : Int64))) rfl ?_
          refine wpc_staJ (a := 12) (N := 16) (s' := (sL (sL (sL (sI (sI (sI (sI s154 5 (ix (gI s154 0 41)) (1 : Int32)) 6 (ix (gI s154 0 41)) a1) 7 (ix (gI s154 0 41)) a2) 8 (ix (gI s154 0 41)) (-1 : Int32)) 11 (ix (gI s154 0 41)) (0 : Int64)) 12 (ix (gI s154 0 41)) (0 : Int64)) 13 (ix (gI s154 0 41)) (0 : Int64))) rfl rfl (by decide) h162.1 rfl ?_
          have h163 := h162.2
          refine wpc_sl (n := 4) (c' := 21) (pc' := 102) (ls' := [some (.ref 0), some (.int a1), some (.int a2), some (.int (gI s154 0 41))]) (st' := [.long (0 : Int64), .int (gI s154 0 41), .ref 14]) (s' := (sL (sL (sL (sI (sI (sI (sI s154 5 (ix (gI s154 0 41)) (1 : Int32)) 6 (ix (gI s154 0 41)) a1) 7 (ix (gI s154 0 41)) a2) 8 (ix (gI s154 0 41)) (-1 : Int32)) 11 (ix (gI s154 0 41)) (0 : Int64)) 12 (ix (gI s154 0 41)) (0 : Int64)) 13 (ix (gI s154 0 41)) (0 : Int64))) rfl ?_
          refine wpc_staJ (a := 13) (N := 16) (s' := (sL (sL (sL (sL (sI (sI (sI (sI s154 5 (ix (gI s154 0 41)) (1 : Int32)) 6 (ix (gI s154 0 41)) a1) 7 (ix (gI s154 0 41)) a2) 8 (ix (gI s154 0 41)) (-1 : Int32)) 11 (ix (gI s154 0 41)) (0 : Int64)) 12 (ix (gI s154 0 41)) (0 : Int64)) 13 (ix (gI s154 0 41)) (0 : Int64)) 14 (ix (gI s154 0 41)) (0 : Int64))) rfl rfl (by decide) h163.1 rfl ?_
          have h164 := h163.2
          refine wpc_sl (n := 4) (c' := 21) (pc' := 109) (ls' := [some (.ref 0), some (.int a1), some (.int a2), some (.int (gI s154 0 41))]) (st' := [.long (0 : Int64), .int (gI s154 0 41), .ref 15]) (s' := (sL (sL (sL (sL (sI (sI (sI (sI s154 5 (ix (gI s154 0 41)) (1 : Int32)) 6 (ix (gI s154 0 41)) a1) 7 (ix (gI s154 0 41)) a2) 8 (ix (gI s154 0 41)) (-1 : Int32)) 11 (ix (gI s154 0 41)) (0 : Int64)) 12 (ix (gI s154 0 41)) (0 : Int64)) 13 (ix (gI s154 0 41)) (0 : Int64)) 14 (ix (gI s154 0 41)) (0 : Int64))) rfl ?_
          refine wpc_staJ (a := 14) (N := 16) (s' := (sL (sL (sL (sL (sL (sI (sI (sI (sI s154 5 (ix (gI s154 0 41)) (1 : Int32)) 6 (ix (gI s154 0 41)) a1) 7 (ix (gI s154 0 41)) a2) 8 (ix (gI s154 0 41)) (-1 : Int32)) 11 (ix (gI s154 0 41)) (0 : Int64)) 12 (ix (gI s154 0 41)) (0 : Int64)) 13 (ix (gI s154 0 41)) (0 : Int64)) 14 (ix (gI s154 0 41)) (0 : Int64)) 15 (ix (gI s154 0 41)) (0 : Int64))) rfl rfl (by decide) h164.1 rfl ?_
          have h165 := h164.2
          refine wpc_sl (n := 4) (c' := 21) (pc' := 116) (ls' := [some (.ref 0), some (.int a1), some (.int a2), some (.int (gI s154 0 41))]) (st' := [.int (0 : Int32), .int (gI s154 0 41), .ref 9]) (s' := (sL (sL (sL (sL (sL (sI (sI (sI (sI s154 5 (ix (gI s154 0 41)) (1 : Int32)) 6 (ix (gI s154 0 41)) a1) 7 (ix (gI s154 0 41)) a2) 8 (ix (gI s154 0 41)) (-1 : Int32)) 11 (ix (gI s154 0 41)) (0 : Int64)) 12 (ix (gI s154 0 41)) (0 : Int64)) 13 (ix (gI s154 0 41)) (0 : Int64)) 14 (ix (gI s154 0 41)) (0 : Int64)) 15 (ix (gI s154 0 41)) (0 : Int64))) rfl ?_
          refine wpc_staI (a := 8) (N := 16) (s' := (sI (sL (sL (sL (sL (sL (sI (sI (sI (sI s154 5 (ix (gI s154 0 41)) (1 : Int32)) 6 (ix (gI s154 0 41)) a1) 7 (ix (gI s154 0 41)) a2) 8 (ix (gI s154 0 41)) (-1 : Int32)) 11 (ix (gI s154 0 41)) (0 : Int64)) 12 (ix (gI s154 0 41)) (0 : Int64)) 13 (ix (gI s154 0 41)) (0 : Int64)) 14 (ix (gI s154 0 41)) (0 : Int64)) 15 (ix (gI s154 0 41)) (0 : Int64)) 9 (ix (gI s154 0 41)) (0 : Int32))) rfl rfl (by decide) h165.1 rfl ?_
          have h166 := h165.2
          refine wpc_sl (n := 4) (c' := 21) (pc' := 123) (ls' := [some (.ref 0), some (.int a1), some (.int a2), some (.int (gI s154 0 41))]) (st' := [.int (0 : Int32), .int (gI s154 0 41), .ref 10]) (s' := (sI (sL (sL (sL (sL (sL (sI (sI (sI (sI s154 5 (ix (gI s154 0 41)) (1 : Int32)) 6 (ix (gI s154 0 41)) a1) 7 (ix (gI s154 0 41)) a2) 8 (ix (gI s154 0 41)) (-1 : Int32)) 11 (ix (gI s154 0 41)) (0 : Int64)) 12 (ix (gI s154 0 41)) (0 : Int64)) 13 (ix (gI s154 0 41)) (0 : Int64)) 14 (ix (gI s154 0 41)) (0 : Int64)) 15 (ix (gI s154 0 41)) (0 : Int64)) 9 (ix (gI s154 0 41)) (0 : Int32))) rfl ?_
          refine wpc_staI (a := 9) (N := 16) (s' := (sI (sI (sL (sL (sL (sL (sL (sI (sI (sI (sI s154 5 (ix (gI s154 0 41)) (1 : Int32)) 6 (ix (gI s154 0 41)) a1) 7 (ix (gI s154 0 41)) a2) 8 (ix (gI s154 0 41)) (-1 : Int32)) 11 (ix (gI s154 0 41)) (0 : Int64)) 12 (ix (gI s154 0 41)) (0 : Int64)) 13 (ix (gI s154 0 41)) (0 : Int64)) 14 (ix (gI s154 0 41)) (0 : Int64)) 15 (ix (gI s154 0 41)) (0 : Int64)) 9 (ix (gI s154 0 41)) (0 : Int32)) 10 (ix (gI s154 0 41)) (0 : Int32))) rfl rfl (by decide) h166.1 rfl ?_
          have h167 := h166.2
          refine wpc_sl (n := 7) (c' := 21) (pc' := 135) (ls' := [some (.ref 0), some (.int a1), some (.int a2), some (.int (gI s154 0 41))]) (st' := [.ref 0]) (s' := (sI (sI (sI (sL (sL (sL (sL (sL (sI (sI (sI (sI s154 5 (ix (gI s154 0 41)) (1 : Int32)) 6 (ix (gI s154 0 41)) a1) 7 (ix (gI s154 0 41)) a2) 8 (ix (gI s154 0 41)) (-1 : Int32)) 11 (ix (gI s154 0 41)) (0 : Int64)) 12 (ix (gI s154 0 41)) (0 : Int64)) 13 (ix (gI s154 0 41)) (0 : Int64)) 14 (ix (gI s154 0 41)) (0 : Int64)) 15 (ix (gI s154 0 41)) (0 : Int64)) 9 (ix (gI s154 0 41)) (0 : Int32)) 10 (ix (gI s154 0 41)) (0 : Int32)) 0 41 ((gI s154 0 41) + (1 : Int32)))) rfl ?_
          refine wpc_callV (m' := 27) (me' := cm27) (as := []) (r := []) rfl rfl rfl rfl rfl ⟨by decide, (by first | decide | exact Nat.le_of_ble_eq_true rfl), (by first | decide | exact Nat.le_of_ble_eq_true rfl), rfl⟩ (calV.mono h167 fun s168 h170 => ?_)
          refine wpc_sl (n := 1) (c' := 21) (pc' := 139) (ls' := [some (.ref 0), some (.int a1), some (.int a2), some (.int (gI s154 0 41))]) (st' := [.int (gI s154 0 41)]) (s' := s168) rfl ?_
          exact wpc_ret rfl rfl (fun q => absurd q (by decide)) rfl ⟨(gI s154 0 41), rfl, h170⟩
        · have h153 := h150.2 hc151
          refine wpc_sl (n := 1) (c' := 21) (pc' := 37) (ls' := [some (.ref 0), some (.int a1), some (.int a2), none]) (st' := [.int (-5 : Int32)]) (s' := s145) rfl ?_
          exact wpc_ret rfl rfl (fun q => absurd q (by decide)) rfl ⟨(-5 : Int32), rfl, h153⟩
    · have h144 := h141.2 hc142
      refine wpc_sl (n := 1) (c' := 21) (pc' := 14) (ls' := [some (.ref 0), some (.int a1), some (.int a2), none]) (st' := [.int (-3 : Int32)]) (s' := s) rfl ?_
      exact wpc_ret rfl rfl (fun q => absurd q (by decide)) rfl ⟨(-3 : Int32), rfl, h144⟩
theorem c16_in  (s : St) (Q : Int32 → St → Prop) (h : wpcI PP 16 cm16 21 4 [some (.ref 0), some (.int (-1 : Int32)), some (.int (0 : Int32))] [] s Q) : calI PP 16 21 [.ref 0] s Q := by
  refine cal_of (me := cm16) (ls := [some (.ref 0), none, none]) rfl (Nat.le_of_ble_eq_true rfl) rfl ?_
  refine wpc_sl (n := 4) (c' := 21) (pc' := 4) (ls' := [some (.ref 0), some (.int (-1 : Int32)), some (.int (0 : Int32))]) (st' := []) (s' := s) rfl ?_
  exact h
theorem c16_4 (x1 : Int32) (x2 : Int32) (s : St) (Q : Int32 → St → Prop) (h : ((x2 < (16 : Int32)) → ((x2 < (gI s 0 41)) → inb 16 x2 ∧ (((gI s 5 (ix x2)) = (1 : Int32)) → ((x1 < (0 : Int32)) → wpcI PP 16 cm16 21 50 [some (.ref 0), some (.int x2), some (.int x2)] [] s Q) ∧ (¬ (x1 < (0 : Int32)) → inb 16 x2 ∧ inb 16 x1 ∧ ∀ m513, m513 = (if (XT.cmpL (gL s 12 (ix x2)) (gL s 12 (ix x1))) < (0 : Int32) then x2 else x1) → (wpcI PP 16 cm16 21 50 [some (.ref 0), some (.int m513), some (.int x2)] [] s Q))) ∧ (¬ ((gI s 5 (ix x2)) = (1 : Int32)) → wpcI PP 16 cm16 21 50 [some (.ref 0), some (.int x1), some (.int x2)] [] s Q)) ∧ (¬ (x2 < (gI s 0 41)) → wpcI PP 16 cm16 21 50 [some (.ref 0), some (.int x1), some (.int x2)] [] s Q)) ∧ (¬ (x2 < (16 : Int32)) → Q x1 s)) : wpcI PP 16 cm16 21 4 [some (.ref 0), some (.int x1), some (.int x2)] [] s Q := by
  refine wpc_sl (n := 2) (c' := 21) (pc' := 7) (ls' := [some (.ref 0), some (.int x1), some (.int x2)]) (st' := [.int (16 : Int32), .int x2]) (s' := s) rfl ?_
  refine wpc_icmp (a := 56) (b := 10) rfl (by decide) rfl rfl (wpc_br (p := x2 < (16 : Int32)) ⟨fun hc498 => ?_, fun hc498 => ?_⟩)
  · have h499 := h.1 hc498
    refine wpc_sl (n := 3) (c' := 21) (pc' := 15) (ls' := [some (.ref 0), some (.int x1), some (.int x2)]) (st' := [.int (gI s 0 41), .int x2]) (s' := s) rfl ?_
    refine wpc_icmp (a := 50) (b := 18) rfl (by decide) rfl rfl (wpc_br (p := x2 < (gI s 0 41)) ⟨fun hc501 => ?_, fun hc501 => ?_⟩)
    · have h502 := h499.1 hc501
      refine wpc_sl (n := 3) (c' := 21) (pc' := 23) (ls' := [some (.ref 0), some (.int x1), some (.int x2)]) (st' := [.int x2, .ref 5]) (s' := s) rfl ?_
      refine wpc_ldaI (a := 4) (N := 16) (v := (gI s 5 (ix x2))) rfl rfl (by decide) h502.1 rfl ?_
      have h504 := h502.2
      refine wpc_sl (n := 1) (c' := 21) (pc' := 25) (ls' := [some (.ref 0), some (.int x1), some (.int x2)]) (st' := [.int (1 : Int32), .int (gI s 5 (ix x2))]) (s' := s) rfl ?_
      refine wpc_icmp (a := 50) (b := 28) rfl (by decide) rfl rfl (wpc_br (p := (gI s 5 (ix x2)) = (1 : Int32)) ⟨fun hc505 => ?_, fun hc505 => ?_⟩)
      · have h506 := h504.1 hc505
        refine wpc_sl (n := 1) (c' := 21) (pc' := 29) (ls' := [some (.ref 0), some (.int x1), some (.int x2)]) (st' := [.int x1]) (s' := s) rfl ?_
        refine wpc_if (a := 48) (b := 32) rfl (by decide) rfl rfl (wpc_br (p := x1 < (0 : Int32)) ⟨fun hc508 => ?_, fun hc508 => ?_⟩)
        · have h509 := h506.1 hc508
          refine wpc_sl (n := 2) (c' := 21) (pc' := 50) (ls' := [some (.ref 0), some (.int x2), some (.int x2)]) (st' := []) (s' := s) rfl ?_
          exact h509
        · have h510 := h506.2 hc508
          refine wpc_sl (n := 3) (c' := 21) (pc' := 37) (ls' := [some (.ref 0), some (.int x1), some (.int x2)]) (st' := [.int x2, .ref 12]) (s' := s) rfl ?_
          refine wpc_ldaJ (a := 11) (N := 16) (v := (gL s 12 (ix x2))) rfl rfl (by decide) h510.1 rfl ?_
          have h511 := h510.2
          refine wpc_sl (n := 3) (c' := 21) (pc' := 43) (ls' := [some (.ref 0), some (.int x1), some (.int x2)]) (st' := [.int x1, .ref 12, .long (gL s 12 (ix x2))]) (s' := s) rfl ?_
          refine wpc_ldaJ (a := 11) (N := 16) (v := (gL s 12 (ix x1))) rfl rfl (by decide) h511.1 rfl ?_
          have h512 := h511.2
          refine wpc_sl (n := 1) (c' := 21) (pc' := 45) (ls' := [some (.ref 0), some (.int x1), some (.int x2)]) (st' := [.int (XT.cmpL (gL s 12 (ix x2)) (gL s 12 (ix x1)))]) (s' := s) rfl ?_
          have hm514 : ∀ m513, m513 = (if (XT.cmpL (gL s 12 (ix x2)) (gL s 12 (ix x1))) < (0 : Int32) then x2 else x1) → wpcI PP 16 cm16 21 50 [some (.ref 0), some (.int m513), some (.int x2)] [] s Q := by
            intro m513 em513
            have h515 := h512 m513 em513
            exact h515
          refine wpc_if (a := 50) (b := 48) rfl (by decide) rfl rfl (wpc_br (p := (XT.cmpL (gL s 12 (ix x2)) (gL s 12 (ix x1))) < (0 : Int32)) ⟨fun hc516 => ?_, fun hc516 => ?_⟩)
          · refine wpc_sl (n := 2) (c' := 21) (pc' := 50) (ls' := [some (.ref 0), some (.int x2), some (.int x2)]) (st' := []) (s' := s) rfl ?_
            first | exact hm514 _ (by simp only [if_pos hc516]) | exact wpc_lle (by repeat (first | exact trivial | refine ⟨rfl, ?_⟩)) (hm514 _ (by simp only [if_pos hc516]))
          · first | exact hm514 _ (by simp only [if_neg hc516]) | exact wpc_lle (by repeat (first | exact trivial | refine ⟨rfl, ?_⟩)) (hm514 _ (by simp only [if_neg hc516]))
      · have h507 := h504.2 hc505
        exact h507
    · have h503 := h499.2 hc501
      exact h503
  · have h500 := h.2 hc498
    refine wpc_sl (n := 1) (c' := 21) (pc' := 57) (ls' := [some (.ref 0), some (.int x1), some (.int x2)]) (st' := [.int x1]) (s' := s) rfl ?_
    exact wpc_ret rfl rfl (fun q => absurd q (by decide)) rfl ⟨x1, rfl, h500⟩
theorem c16_50 (x1 : Int32) (x2 : Int32) (s : St) (Q : Int32 → St → Prop) (h : wpcI PP 16 cm16 21 4 [some (.ref 0), some (.int x1), some (.int (x2 + (1 : Int32)))] [] s Q) : wpcI PP 16 cm16 21 50 [some (.ref 0), some (.int x1), some (.int x2)] [] s Q := by
  refine wpc_sl (n := 2) (c' := 21) (pc' := 4) (ls' := [some (.ref 0), some (.int x1), some (.int (x2 + (1 : Int32)))]) (st' := []) (s' := s) rfl ?_
  exact h
theorem c9_in (a1 : Int32) (s : St) (Q : Int32 → St → Prop) (h : ((a1 < (1 : Int32)) → Q (-2 : Int32) s) ∧ (¬ (a1 < (1 : Int32)) → (((gI s 0 39) < a1) → Q (-2 : Int32) s) ∧ (¬ ((gI s 0 39) < a1) → calI PP 16 21 [.ref 0] s (fun v466 s465 => ((v466 < (0 : Int32)) → Q (-1 : Int32) s465) ∧ (¬ (v466 < (0 : Int32)) → inb 16 v466 ∧ inb 16 v466 ∧ inb 16 v466 ∧ inb 16 v466 ∧ inb 16 v466 ∧ inb 16 v466 ∧ inb 16 v466 ∧ inb 16 v466 ∧ calV PP 19 21 [.ref 0] (sI (sI (sI (sL s465 12 (ix v466) ((gL s465 12 (ix v466)) + (gL s465 13 (ix v466)))) 9 (ix v466) ((gI s465 9 (ix v466)) + (1 : Int32))) 10 (ix v466) ((gI s465 10 (ix v466)) + (1 : Int32))) 0 43 ((gI s465 0 43) + (1 : Int32))) (fun s479 => inb 16 v466 ∧ (¬ ((Int32.toInt64 a1) = (0 : Int64))) ∧ inb 16 v466 ∧ (((XT.cmpL (gL s465 11 (ix v466)) (0 : Int64)) = (0 : Int32)) → inb 16 v466 ∧ (((XT.cmpL (gL (sL s479 11 (ix v466) (((gL s479 19 (ix v466)) * (Int32.toInt64 ((gI s479 0 39) - a1))) / (Int32.toInt64 a1))) 11 (ix v466)) (0 : Int64)) = (0 : Int32)) → Q v466 (sL s479 11 (ix v466) (((gL s479 19 (ix v466)) * (Int32.toInt64 ((gI s479 0 39) - a1))) / (Int32.toInt64 a1)))) ∧ (¬ ((XT.cmpL (gL (sL s479 11 (ix v466) (((gL s479 19 (ix v466)) * (Int32.toInt64 ((gI s479 0 39) - a1))) / (Int32.toInt64 a1))) 11 (ix v466)) (0 : Int64)) = (0 : Int32)) → wpcI PP 9 cm9 21 135 [some (.ref 0), none, some (.int v466), none, none] [] (sL s479 11 (ix v466) (((gL s479 19 (ix v466)) * (Int32.toInt64 ((gI s479 0 39) - a1))) / (Int32.toInt64 a1))) Q)) ∧ (¬ ((XT.cmpL (gL s465 11 (ix v466)) (0 : Int64)) = (0 : Int32)) → wpcI PP 9 cm9 21 135 [some (.ref 0), none, some (.int v466), none, none] [] (sL s479 11 (ix v466) (((gL s479 19 (ix v466)) * (Int32.toInt64 ((gI s479 0 39) - a1))) / (Int32.toInt64 a1))) Q))))))) : calI PP 9 21 [.ref 0, .int a1] s Q := by
  refine cal_of (me := cm9) (ls := [some (.ref 0), some (.int a1), none, none, none]) rfl (Nat.le_of_ble_eq_true rfl) rfl ?_
  refine wpc_sl (n := 2) (c' := 21) (pc' := 2) (ls' := [some (.ref 0), some (.int a1), none, none, none]) (st' := [.int (1 : Int32), .int a1]) (s' := s) rfl ?_
  refine wpc_icmp (a := 13) (b := 5) rfl (by decide) rfl rfl (wpc_br (p := a1 < (1 : Int32)) ⟨fun hc459 => ?_, fun hc459 => ?_⟩)
  · have h460 := h.1 hc459
    refine wpc_sl (n := 1) (c' := 21) (pc' := 15) (ls' := [some (.ref 0), some (.int a1), none, none, none]) (st' := [.int (-2 : Int32)]) (s' := s) rfl ?_
    exact wpc_ret rfl rfl (fun q => absurd q (by decide)) rfl ⟨(-2 : Int32), rfl, h460⟩
  · have h461 := h.2 hc459
    refine wpc_sl (n := 3) (c' := 21) (pc' := 10) (ls' := [some (.ref 0), some (.int a1), none, none, none]) (st' := [.int (gI s 0 39), .int a1]) (s' := s) rfl ?_
    refine wpc_icmp (a := 16) (b := 13) rfl (by decide) rfl rfl (wpc_br (p := (gI s 0 39) < a1) ⟨fun hc462 => ?_, fun hc462 => ?_⟩)
    · have h463 := h461.1 hc462
      refine wpc_sl (n := 1) (c' := 21) (pc' := 15) (ls' := [some (.ref 0), some (.int a1), none, none, none]) (st' := [.int (-2 : Int32)]) (s' := s) rfl ?_
      exact wpc_ret rfl rfl (fun q => absurd q (by decide)) rfl ⟨(-2 : Int32), rfl, h463⟩
    · have h464 := h461.2 hc462
      refine wpc_sl (n := 1) (c' := 21) (pc' := 17) (ls' := [some (.ref 0), some (.int a1), none, none, none]) (st' := [.ref 0]) (s' := s) rfl ?_
      refine wpc_callI (m' := 16) (me' := cm16) (as := []) (r := []) rfl rfl rfl rfl rfl ⟨by decide, (by first | decide | exact Nat.le_of_ble_eq_true rfl), (by first | decide | exact Nat.le_of_ble_eq_true rfl), rfl⟩ (calI.mono h464 fun v466 s465 h467 => ?_)
      refine wpc_sl (n := 2) (c' := 21) (pc' := 22) (ls' := [some (.ref 0), some (.int a1), some (.int v466), none, none]) (st' := [.int v466]) (s' := s465) rfl ?_
      refine wpc_if (a := 27) (b := 25) rfl (by decide) rfl rfl (wpc_br (p := v466 < (0 : Int32)) ⟨fun hc468 => ?_, fun hc468 => ?_⟩)
      · have h469 := h467.1 hc468
        refine wpc_sl (n := 1) (c' := 21) (pc' := 26) (ls' := [some (.ref 0), some (.int a1), some (.int v466), none, none]) (st' := [.int (-1 : Int32)]) (s' := s465) rfl ?_
        exact wpc_ret rfl rfl (fun q => absurd q (by decide)) rfl ⟨(-1 : Int32), rfl, h469⟩
      · have h470 := h467.2 hc468
        refine wpc_sl (n := 6) (c' := 21) (pc' := 37) (ls' := [some (.ref 0), some (.int a1), some (.int v466), none, none]) (st' := [.int v466, .ref 12, .int v466, .ref 12]) (s' := s465) rfl ?_
        refine wpc_ldaJ (a := 11) (N := 16) (v := (gL s465 12 (ix v466))) rfl rfl (by decide) h470.1 rfl ?_
        have h471 := h470.2
        refine wpc_sl (n := 3) (c' := 21) (pc' := 43) (ls' := [some (.ref 0), some (.int a1), some (.int v466), none, none]) (st' := [.int v466, .ref 13, .long (gL s465 12 (ix v466)), .int v466, .ref 12]) (s' := s465) rfl ?_
        refine wpc_ldaJ (a := 12) (N := 16) (v := (gL s465 13 (ix v466))) rfl rfl (by decide) h471.1 rfl ?_
        have h472 := h471.2
        refine wpc_sl (n := 1) (c' := 21) (pc' := 45) (ls' := [some (.ref 0), some (.int a1), some (.int v466), none, none]) (st' := [.long ((gL s465 12 (ix v466)) + (gL s465 13 (ix v466))), .int v466, .ref 12]) (s' := s465) rfl ?_
        refine wpc_staJ (a := 11) (N := 16) (s' := (sL s465 12 (ix v466) ((gL s465 12 (ix v466)) + (gL s465 13 (ix v466))))) rfl rfl (by decide) h472.1 rfl ?_
        have h473 := h472.2
        refine wpc_sl (n := 6) (c' := 21) (pc' := 56) (ls' := [some (.ref 0), some (.int a1), some (.int v466), none, none]) (st' := [.int v466, .ref 9, .int v466, .ref 9]) (s' := (sL s465 12 (ix v466) ((gL s465 12 (ix v466)) + (gL s465 13 (ix v466))))) rfl ?_
        refine wpc_ldaI (a := 8) (N := 16) (v := (gI s465 9 (ix v466))) rfl rfl (by decide) h473.1 rfl ?_
        have h474 := h473.2
        refine wpc_sl (n := 2) (c' := 21) (pc' := 59) (ls' := [some (.ref 0), some (.int a1), some (.int v466), none, none]) (st' := [.int ((gI s465 9 (ix v466)) + (1 : Int32)), .int v466, .ref 9]) (s' := (sL s465 12 (ix v466) ((gL s465 12 (ix v466)) + (gL s465 13 (ix v466))))) rfl ?_
        refine wpc_staI (a := 8) (N := 16) (s' := (sI (sL s465 12 (ix v466) ((gL s465 12 (ix v466)) + (gL s465 13 (ix v466)))) 9 (ix v466) ((gI s465 9 (ix v466)) + (1 : Int32)))) rfl rfl (by decide) h474.1 rfl ?_
        have h475 := h474.2
        refine wpc_sl (n := 6) (c' := 21) (pc' := 70) (ls' := [some (.ref 0), some (.int a1), some (.int v466), none, none]) (st' := [.int v466, .ref 10, .int v466, .ref 10]) (s' := (sI (sL s465 12 (ix v466) ((gL s465 12 (ix v466)) + (gL s465 13 (ix v466)))) 9 (ix v466) ((gI s465 9 (ix v466)) + (1 : Int32)))) rfl ?_
        refine wpc_ldaI (a := 9) (N := 16) (v := (gI s465 10 (ix v466))) rfl rfl (by decide) h475.1 rfl ?_
        have h476 := h475.2
        refine wpc_sl (n := 2) (c' := 21) (pc' := 73) (ls' := [some (.ref 0), some (.int a1), some (.int v466), none, none]) (st' := [.int ((gI s465 10 (ix v466)) + (1 : Int32)), .int v466, .ref 10]) (s' := (sI (sL s465 12 (ix v466) ((gL s465 12 (ix v466)) + (gL s465 13 (ix v466)))) 9 (ix v466) ((gI s465 9 (ix v466)) + (1 : Int32)))) rfl ?_
        refine wpc_staI (a := 9) (N := 16) (s' := (sI (sI (sL s465 12 (ix v466) ((gL s465 12 (ix v466)) + (gL s465 13 (ix v466)))) 9 (ix v466) ((gI s465 9 (ix v466)) + (1 : Int32))) 10 (ix v466) ((gI s465 10 (ix v466)) + (1 : Int32)))) rfl rfl (by decide) h476.1 rfl ?_
        have h477 := h476.2
        refine wpc_sl (n := 9) (c' := 21) (pc' := 89) (ls' := [some (.ref 0), some (.int a1), some (.int v466), none, none]) (st' := [.int v466, .ref 11]) (s' := (sI (sI (sI (sL s465 12 (ix v466) ((gL s465 12 (ix v466)) + (gL s465 13 (ix v466)))) 9 (ix v466) ((gI s465 9 (ix v466)) + (1 : Int32))) 10 (ix v466) ((gI s465 10 (ix v466)) + (1 : Int32))) 0 43 ((gI s465 0 43) + (1 : Int32)))) rfl ?_
        refine wpc_ldaJ (a := 10) (N := 16) (v := (gL s465 11 (ix v466))) rfl rfl (by decide) h477.1 rfl ?_
        have h478 := h477.2
        refine wpc_sl (n := 2) (c' := 21) (pc' := 92) (ls' := [some (.ref 0), some (.int a1), some (.int v466), some (.long (gL s465 11 (ix v466))), none]) (st' := [.ref 0]) (s' := (sI (sI (sI (sL s465 12 (ix v466) ((gL s465 12 (ix v466)) + (gL s465 13 (ix v466)))) 9 (ix v466) ((gI s465 9 (ix v466)) + (1 : Int32))) 10 (ix v466) ((gI s465 10 (ix v466)) + (1 : Int32))) 0 43 ((gI s465 0 43) + (1 : Int32)))) rfl ?_
        refine wpc_callV (m' := 19) (me' := cm19) (as := []) (r := []) rfl rfl rfl rfl rfl ⟨by decide, (by first | decide | exact Nat.le_of_ble_eq_true rfl), (by first | decide | exact Nat.le_of_ble_eq_true rfl), rfl⟩ (calV.mono h478 fun s479 h481 => ?_)
        refine wpc_sl (n := 6) (c' := 21) (pc' := 105) (ls' := [some (.ref 0), some (.int a1), some (.int v466), some (.long (gL s465 11 (ix v466))), none]) (st' := [.int v466, .ref 19, .int v466, .ref 11]) (s' := s479) rfl ?_
        refine wpc_ldaJ (a := 18) (N := 16) (v := (gL s479 19 (ix v466))) rfl rfl (by decide) h481.1 rfl ?_
        have h482 := h481.2
        refine wpc_sl (n := 8) (c' := 21) (pc' := 116) (ls' := [some (.ref 0), some (.int a1), some (.int v466), some (.long (gL s465 11 (ix v466))), none]) (st' := [.long (Int32.toInt64 a1), .long ((gL s479 19 (ix v466)) * (Int32.toInt64 ((gI s479 0 39) - a1))), .int v466, .ref 11]) (s' := s479) rfl ?_
        refine wpc_ldiv rfl h482.1 ?_
        have h483 := h482.2
        refine wpc_staJ (a := 10) (N := 16) (s' := (sL s479 11 (ix v466) (((gL s479 19 (ix v466)) * (Int32.toInt64 ((gI s479 0 39) - a1))) / (Int32.toInt64 a1)))) rfl rfl (by decide) h483.1 rfl ?_
        have h484 := h483.2
        refine wpc_sl (n := 3) (c' := 21) (pc' := 121) (ls' := [some (.ref 0), some (.int a1), some (.int v466), some (.long (gL s465 11 (ix v466))), none]) (st' := [.int (XT.cmpL (gL s465 11 (ix v466)) (0 : Int64))]) (s' := (sL s479 11 (ix v466) (((gL s479 19 (ix v466)) * (Int32.toInt64 ((gI s479 0 39) - a1))) / (Int32.toInt64 a1)))) rfl ?_
        refine wpc_if (a := 135) (b := 124) rfl (by decide) rfl rfl (wpc_br (p := (XT.cmpL (gL s465 11 (ix v466)) (0 : Int64)) = (0 : Int32)) ⟨fun hc485 => ?_, fun hc485 => ?_⟩)
        · have h486 := h484.1 hc485
          refine wpc_sl (n := 3) (c' := 21) (pc' := 129) (ls' := [some (.ref 0), some (.int a1), some (.int v466), some (.long (gL s465 11 (ix v466))), none]) (st' := [.int v466, .ref 11]) (s' := (sL s479 11 (ix v466) (((gL s479 19 (ix v466)) * (Int32.toInt64 ((gI s479 0 39) - a1))) / (Int32.toInt64 a1)))) rfl ?_
          refine wpc_ldaJ (a := 10) (N := 16) (v := (gL (sL s479 11 (ix v466) (((gL s479 19 (ix v466)) * (Int32.toInt64 ((gI s479 0 39) - a1))) / (Int32.toInt64 a1))) 11 (ix v466))) rfl rfl (by decide) h486.1 rfl ?_
          have h488 := h486.2
          refine wpc_sl (n := 2) (c' := 21) (pc' := 132) (ls' := [some (.ref 0), some (.int a1), some (.int v466), some (.long (gL s465 11 (ix v466))), none]) (st' := [.int (XT.cmpL (gL (sL s479 11 (ix v466) (((gL s479 19 (ix v466)) * (Int32.toInt64 ((gI s479 0 39) - a1))) / (Int32.toInt64 a1))) 11 (ix v466)) (0 : Int64))]) (s' := (sL s479 11 (ix v466) (((gL s479 19 (ix v466)) * (Int32.toInt64 ((gI s479 0 39) - a1))) / (Int32.toInt64 a1)))) rfl ?_
          refine wpc_if (a := 143) (b := 135) rfl (by decide) rfl rfl (wpc_br (p := (XT.cmpL (gL (sL s479 11 (ix v466) (((gL s479 19 (ix v466)) * (Int32.toInt64 ((gI s479 0 39) - a1))) / (Int32.toInt64 a1))) 11 (ix v466)) (0 : Int64)) = (0 : Int32)) ⟨fun hc489 => ?_, fun hc489 => ?_⟩)
          · have h490 := h488.1 hc489
            refine wpc_sl (n := 1) (c' := 21) (pc' := 144) (ls' := [some (.ref 0), some (.int a1), some (.int v466), some (.long (gL s465 11 (ix v466))), none]) (st' := [.int v466]) (s' := (sL s479 11 (ix v466) (((gL s479 19 (ix v466)) * (Int32.toInt64 ((gI s479 0 39) - a1))) / (Int32.toInt64 a1)))) rfl ?_
            exact wpc_ret rfl rfl (fun q => absurd q (by decide)) rfl ⟨v466, rfl, h490⟩
          · have h491 := h488.2 hc489
            exact wpc_lle (ls := [some (.ref 0), none, some (.int v466), none, none]) ⟨rfl, rfl, trivial⟩ h491
        · have h487 := h484.2 hc485
          exact wpc_lle (ls := [some (.ref 0), none, some (.int v466), none, none]) ⟨rfl, rfl, trivial⟩ h487
theorem c9_135 (x2 : Int32) (s : St) (Q : Int32 → St → Prop) (h : calV PP 18 21 [.ref 0] s (fun s492 => calV PP 27 21 [.ref 0] s492 (fun s495 => Q x2 s495))) : wpcI PP 9 cm9 21 135 [some (.ref 0), none, some (.int x2), none, none] [] s Q := by
  refine wpc_sl (n := 1) (c' := 21) (pc' := 136) (ls' := [some (.ref 0), none, some (.int x2), none, none]) (st' := [.ref 0]) (s' := s) rfl ?_
  refine wpc_callV (m' := 18) (me' := cm18) (as := []) (r := []) rfl rfl rfl rfl rfl ⟨by decide, (by first | decide | exact Nat.le_of_ble_eq_true rfl), (by first | decide | exact Nat.le_of_ble_eq_true rfl), rfl⟩ (calV.mono h fun s492 h494 => ?_)
  refine wpc_sl (n := 1) (c' := 21) (pc' := 140) (ls' := [some (.ref 0), none, some (.int x2), none, none]) (st' := [.ref 0]) (s' := s492) rfl ?_
  refine wpc_callV (m' := 27) (me' := cm27) (as := []) (r := []) rfl rfl rfl rfl rfl ⟨by decide, (by first | decide | exact Nat.le_of_ble_eq_true rfl), (by first | decide | exact Nat.le_of_ble_eq_true rfl), rfl⟩ (calV.mono h494 fun s495 h497 => ?_)
  refine wpc_sl (n := 1) (c' := 21) (pc' := 144) (ls' := [some (.ref 0), none, some (.int x2), none, none]) (st' := [.int x2]) (s' := s495) rfl ?_
  exact wpc_ret rfl rfl (fun q => absurd q (by decide)) rfl ⟨x2, rfl, h497⟩
theorem c17_in (a1 : Int32) (s : St) (Q : Int32 → St → Prop) (h : inb 16 a1 ∧ (((gI s 5 (ix a1)) = (1 : Int32)) → calV PP 19 21 [.ref 0] s (fun s562 => inb 16 a1 ∧ Q (Int64.toInt32 (gL s562 20 (ix a1))) s562)) ∧ (¬ ((gI s 5 (ix a1)) = (1 : Int32)) → Q (0 : Int32) s)) : calI PP 17 21 [.ref 0, .int a1] s Q := by
  refine cal_of (me := cm17) (ls := [some (.ref 0), some (.int a1)]) rfl (Nat.le_of_ble_eq_true rfl) rfl ?_
  refine wpc_sl (n := 3) (c' := 21) (pc' := 5) (ls' := [some (.ref 0), some (.int a1)]) (st' := [.int a1, .ref 5]) (s' := s) rfl ?_
  refine wpc_ldaI (a := 4) (N := 16) (v := (gI s 5 (ix a1))) rfl rfl (by decide) h.1 rfl ?_
  have h558 := h.2
  refine wpc_sl (n := 1) (c' := 21) (pc' := 7) (ls' := [some (.ref 0), some (.int a1)]) (st' := [.int (1 : Int32), .int (gI s 5 (ix a1))]) (s' := s) rfl ?_
  refine wpc_icmp (a := 12) (b := 10) rfl (by decide) rfl rfl (wpc_br (p := (gI s 5 (ix a1)) = (1 : Int32)) ⟨fun hc559 => ?_, fun hc559 => ?_⟩)
  · have h560 := h558.1 hc559
    refine wpc_sl (n := 1) (c' := 21) (pc' := 13) (ls' := [some (.ref 0), some (.int a1)]) (st' := [.ref 0]) (s' := s) rfl ?_
    refine wpc_callV (m' := 19) (me' := cm19) (as := []) (r := []) rfl rfl rfl rfl rfl ⟨by decide, (by first | decide | exact Nat.le_of_ble_eq_true rfl), (by first | decide | exact Nat.le_of_ble_eq_true rfl), rfl⟩ (calV.mono h560 fun s562 h564 => ?_)
    refine wpc_sl (n := 3) (c' := 21) (pc' := 21) (ls' := [some (.ref 0), some (.int a1)]) (st' := [.int a1, .ref 20]) (s' := s562) rfl ?_
    refine wpc_ldaJ (a := 19) (N := 16) (v := (gL s562 20 (ix a1))) rfl rfl (by decide) h564.1 rfl ?_
    have h565 := h564.2
    refine wpc_sl (n := 1) (c' := 21) (pc' := 23) (ls' := [some (.ref 0), some (.int a1)]) (st' := [.int (Int64.toInt32 (gL s562 20 (ix a1)))]) (s' := s562) rfl ?_
    exact wpc_ret rfl rfl (fun q => absurd q (by decide)) rfl ⟨(Int64.toInt32 (gL s562 20 (ix a1))), rfl, h565⟩
  · have h561 := h558.2 hc559
    refine wpc_sl (n := 1) (c' := 21) (pc' := 11) (ls' := [some (.ref 0), some (.int a1)]) (st' := [.int (0 : Int32)]) (s' := s) rfl ?_
    exact wpc_ret rfl rfl (fun q => absurd q (by decide)) rfl ⟨(0 : Int32), rfl, h561⟩
theorem c10_in (a1 : Int32) (a2 : Int32) (s : St) (Q : Int32 → St → Prop) (h : ((a1 < (0 : Int32)) → Q (0 : Int32) s) ∧ (¬ (a1 < (0 : Int32)) → ((a1 < (gI s 0 41)) → ((a1 < (16 : Int32)) → ((a2 < (0 : Int32)) → Q (0 : Int32) s) ∧ (¬ (a2 < (0 : Int32)) → (((11 : Int32) < a2) → Q (0 : Int32) s) ∧ (¬ ((11 : Int32) < a2) → ((a2 = (0 : Int32)) → inb 16 a1 ∧ Q (gI s 5 (ix a1)) s) ∧ ((a2 = (1 : Int32)) → inb 16 a1 ∧ Q (gI s 6 (ix a1)) s) ∧ ((a2 = (2 : Int32)) → inb 16 a1 ∧ Q (gI s 7 (ix a1)) s) ∧ ((a2 = (3 : Int32)) → inb 16 a1 ∧ Q (gI s 8 (ix a1)) s) ∧ ((a2 = (4 : Int32)) → calI PP 17 21 [.ref 0, .int a1] s (fun v542 s541 => Q v542 s541)) ∧ ((a2 = (5 : Int32)) → inb 16 a1 ∧ Q (Int64.toInt32 (gL s 13 (ix a1))) s) ∧ ((a2 = (6 : Int32)) → inb 16 a1 ∧ Q (Int64.toInt32 (gL s 12 (ix a1))) s) ∧ ((a2 = (7 : Int32)) → inb 16 a1 ∧ Q (gI s 9 (ix a1)) s) ∧ ((a2 = (8 : Int32)) → inb 16 a1 ∧ Q (gI s 10 (ix a1)) s) ∧ ((a2 = (9 : Int32)) → inb 16 a1 ∧ Q (Int64.toInt32 (gL s 11 (ix a1))) s) ∧ ((a2 = (10 : Int32)) → inb 16 a1 ∧ Q (Int64.toInt32 (gL s 14 (ix a1))) s) ∧ (((a2).toInt < 0 ∨ (a2).toInt > 10) → inb 16 a1 ∧ Q (Int64.toInt32 (gL s 15 (ix a1))) s)))) ∧ (¬ (a1 < (16 : Int32)) → Q (0 : Int32) s)) ∧ (¬ (a1 < (gI s 0 41)) → Q (0 : Int32) s))) : calI PP 10 21 [.ref 0, .int a1, .int a2] s Q := by
  refine cal_of (me := cm10) (ls := [some (.ref 0), some (.int a1), some (.int a2)]) rfl (Nat.le_of_ble_eq_true rfl) rfl ?_
  refine wpc_sl (n := 1) (c' := 21) (pc' := 1) (ls' := [some (.ref 0), some (.int a1), some (.int a2)]) (st' := [.int a1]) (s' := s) rfl ?_
  refine wpc_if (a := 18) (b := 4) rfl (by decide) rfl rfl (wpc_br (p := a1 < (0 : Int32)) ⟨fun hc517 => ?_, fun hc517 => ?_⟩)
  · have h518 := h.1 hc517
    refine wpc_sl (n := 1) (c' := 21) (pc' := 19) (ls' := [some (.ref 0), some (.int a1), some (.int a2)]) (st' := [.int (0 : Int32)]) (s' := s) rfl ?_
    exact wpc_ret rfl rfl (fun q => absurd q (by decide)) rfl ⟨(0 : Int32), rfl, h518⟩
  · have h519 := h.2 hc517
    refine wpc_sl (n := 3) (c' := 21) (pc' := 9) (ls' := [some (.ref 0), some (.int a1), some (.int a2)]) (st' := [.int (gI s 0 41), .int a1]) (s' := s) rfl ?_
    refine wpc_icmp (a := 18) (b := 12) rfl (by decide) rfl rfl (wpc_br (p := a1 < (gI s 0 41)) ⟨fun hc520 => ?_, fun hc520 => ?_⟩)
    · have h521 := h519.1 hc520
      refine wpc_sl (n := 2) (c' := 21) (pc' := 15) (ls' := [some (.ref 0), some (.int a1), some (.int a2)]) (st' := [.int (16 : Int32), .int a1]) (s' := s) rfl ?_
      refine wpc_icmp (a := 20) (b := 18) rfl (by decide) rfl rfl (wpc_br (p := a1 < (16 : Int32)) ⟨fun hc523 => ?_, fun hc523 => ?_⟩)
      · have h524 := h521.1 hc523
        refine wpc_sl (n := 1) (c' := 21) (pc' := 21) (ls' := [some (.ref 0), some (.int a1), some (.int a2)]) (st' := [.int a2]) (s' := s) rfl ?_
        refine wpc_if (a := 30) (b := 24) rfl (by decide) rfl rfl (wpc_br (p := a2 < (0 : Int32)) ⟨fun hc526 => ?_, fun hc526 => ?_⟩)
        · have h527 := h524.1 hc526
          refine wpc_sl (n := 1) (c' := 21) (pc' := 31) (ls' := [some (.ref 0), some (.int a1), some (.int a2)]) (st' := [.int (0 : Int32)]) (s' := s) rfl ?_
          exact wpc_ret rfl rfl (fun q => absurd q (by decide)) rfl ⟨(0 : Int32), rfl, h527⟩
        · have h528 := h524.2 hc526
          refine wpc_sl (n := 2) (c' := 21) (pc' := 27) (ls' := [some (.ref 0), some (.int a1), some (.int a2)]) (st' := [.int (11 : Int32), .int a2]) (s' := s) rfl ?_
          refine wpc_icmp (a := 32) (b := 30) rfl (by decide) rfl rfl (wpc_br (p := (11 : Int32) < a2) ⟨fun hc529 => ?_, fun hc529 => ?_⟩)
          · have h530 := h528.1 hc529
            refine wpc_sl (n := 1) (c' := 21) (pc' := 31) (ls' := [some (.ref 0), some (.int a1), some (.int a2)]) (st' := [.int (0 : Int32)]) (s' := s) rfl ?_
            exact wpc_ret rfl rfl (fun q => absurd q (by decide)) rfl ⟨(0 : Int32), rfl, h530⟩
          · have h531 := h528.2 hc529
            refine wpc_sl (n := 1) (c' := 21) (pc' := 33) (ls' := [some (.ref 0), some (.int a1), some (.int a2)]) (st' := [.int a2]) (s' := s) rfl ?_
            refine wpc_tsw (x := a2) rfl (by decide) (by decide) (by decide) ⟨fun hx => ?_, fun hx => ?_, fun hx => ?_, fun hx => ?_, fun hx => ?_, fun hx => ?_, fun hx => ?_, fun hx => ?_, fun hx => ?_, fun hx => ?_, fun hx => ?_, trivial⟩ (fun hx => ?_)
            · have h532 := h531.1 (Int32.toInt_inj.mp (hx.trans (by decide)))
              refine wpc_sl (n := 3) (c' := 21) (pc' := 97) (ls' := [some (.ref 0), some (.int a1), some (.int a2)]) (st' := [.int a1, .ref 5]) (s' := s) rfl ?_
              refine wpc_ldaI (a := 4) (N := 16) (v := (gI s 5 (ix a1))) rfl rfl (by decide) h532.1 rfl ?_
              have h533 := h532.2
              exact wpc_ret rfl rfl (fun q => absurd q (by decide)) rfl ⟨(gI s 5 (ix a1)), rfl, h533⟩
            · have h534 := h531.2.1 (Int32.toInt_inj.mp (hx.trans (by decide)))
              refine wpc_sl (n := 3) (c' := 21) (pc' := 104) (ls' := [some (.ref 0), some (.int a1), some (.int a2)]) (st' := [.int a1, .ref 6]) (s' := s) rfl ?_
              refine wpc_ldaI (a := 5) (N := 16) (v := (gI s 6 (ix a1))) rfl rfl (by decide) h534.1 rfl ?_
              have h535 := h534.2
              exact wpc_ret rfl rfl (fun q => absurd q (by decide)) rfl ⟨(gI s 6 (ix a1)), rfl, h535⟩
            · have h536 := h531.2.2.1 (Int32.toInt_inj.mp (hx.trans (by decide)))
              refine wpc_sl (n := 3) (c' := 21) (pc' := 111) (ls' := [some (.ref 0), some (.int a1), some (.int a2)]) (st' := [.int a1, .ref 7]) (s' := s) rfl ?_
              refine wpc_ldaI (a := 6) (N := 16) (v := (gI s 7 (ix a1))) rfl rfl (by decide) h536.1 rfl ?_
              have h537 := h536.2
              exact wpc_ret rfl rfl (fun q => absurd q (by decide)) rfl ⟨(gI s 7 (ix a1)), rfl, h537⟩
            · have h538 := h531.2.2.2.1 (Int32.toInt_inj.mp (hx.trans (by decide)))
              refine wpc_sl (n := 3) (c' := 21) (pc' := 118) (ls' := [some (.ref 0), some (.int a1), some (.int a2)]) (st' := [.int a1, .ref 8]) (s' := s) rfl ?_
              refine wpc_ldaI (a := 7) (N := 16) (v := (gI s 8 (ix a1))) rfl rfl (by decide) h538.1 rfl ?_
              have h539 := h538.2
              exact wpc_ret rfl rfl (fun q => absurd q (by decide)) rfl ⟨(gI s 8 (ix a1)), rfl, h539⟩
            · have h540 := h531.2.2.2.2.1 (Int32.toInt_inj.mp (hx.trans (by decide)))
              refine wpc_sl (n := 2) (c' := 21) (pc' := 122) (ls' := [some (.ref 0), some (.int a1), some (.int a2)]) (st' := [.int a1, .ref 0]) (s' := s) rfl ?_
              refine wpc_callI (m' := 17) (me' := cm17) (as := [.int a1]) (r := []) rfl rfl rfl rfl rfl ⟨by decide, (by first | decide | exact Nat.le_of_ble_eq_true rfl), (by first | decide | exact Nat.le_of_ble_eq_true rfl), rfl⟩ (calI.mono h540 fun v542 s541 h543 => ?_)
              exact wpc_ret rfl rfl (fun q => absurd q (by decide)) rfl ⟨v542, rfl, h543⟩
            · have h544 := h531.2.2.2.2.2.1 (Int32.toInt_inj.mp (hx.trans (by decide)))
              refine wpc_sl (n := 3) (c' := 21) (pc' := 131) (ls' := [some (.ref 0), some (.int a1), some (.int a2)]) (st' := [.int a1, .ref 13]) (s' := s) rfl ?_
              refine wpc_ldaJ (a := 12) (N := 16) (v := (gL s 13 (ix a1))) rfl rfl (by decide) h544.1 rfl ?_
              have h545 := h544.2
              refine wpc_sl (n := 1) (c' := 21) (pc' := 133) (ls' := [some (.ref 0), some (.int a1), some (.int a2)]) (st' := [.int (Int64.toInt32 (gL s 13 (ix a1)))]) (s' := s) rfl ?_
              exact wpc_ret rfl rfl (fun q => absurd q (by decide)) rfl ⟨(Int64.toInt32 (gL s 13 (ix a1))), rfl, h545⟩
            · have h546 := h531.2.2.2.2.2.2.1 (Int32.toInt_inj.mp (hx.trans (by decide)))
              refine wpc_sl (n := 3) (c' := 21) (pc' := 139) (ls' := [some (.ref 0), some (.int a1), some (.int a2)]) (st' := [.int a1, .ref 12]) (s' := s) rfl ?_
              refine wpc_ldaJ (a := 11) (N := 16) (v := (gL s 12 (ix a1))) rfl rfl (by decide) h546.1 rfl ?_
              have h547 := h546.2
              refine wpc_sl (n := 1) (c' := 21) (pc' := 141) (ls' := [some (.ref 0), some (.int a1), some (.int a2)]) (st' := [.int (Int64.toInt32 (gL s 12 (ix a1)))]) (s' := s) rfl ?_
              exact wpc_ret rfl rfl (fun q => absurd q (by decide)) rfl ⟨(Int64.toInt32 (gL s 12 (ix a1))), rfl, h547⟩
            · have h548 := h531.2.2.2.2.2.2.2.1 (Int32.toInt_inj.mp (hx.trans (by decide)))
              refine wpc_sl (n := 3) (c' := 21) (pc' := 147) (ls' := [some (.ref 0), some (.int a1), some (.int a2)]) (st' := [.int a1, .ref 9]) (s' := s) rfl ?_
              refine wpc_ldaI (a := 8) (N := 16) (v := (gI s 9 (ix a1))) rfl rfl (by decide) h548.1 rfl ?_
              have h549 := h548.2
              exact wpc_ret rfl rfl (fun q => absurd q (by decide)) rfl ⟨(gI s 9 (ix a1)), rfl, h549⟩
            · have h550 := h531.2.2.2.2.2.2.2.2.1 (Int32.toInt_inj.mp (hx.trans (by decide)))
              refine wpc_sl (n := 3) (c' := 21) (pc' := 154) (ls' := [some (.ref 0), some (.int a1), some (.int a2)]) (st' := [.int a1, .ref 10]) (s' := s) rfl ?_
              refine wpc_ldaI (a := 9) (N := 16) (v := (gI s 10 (ix a1))) rfl rfl (by decide) h550.1 rfl ?_
              have h551 := h550.2
              exact wpc_ret rfl rfl (fun q => absurd q (by decide)) rfl ⟨(gI s 10 (ix a1)), rfl, h551⟩
            · have h552 := h531.2.2.2.2.2.2.2.2.2.1 (Int32.toInt_inj.mp (hx.trans (by decide)))
              refine wpc_sl (n := 3) (c' := 21) (pc' := 161) (ls' := [some (.ref 0), some (.int a1), some (.int a2)]) (st' := [.int a1, .ref 11]) (s' := s) rfl ?_
              refine wpc_ldaJ (a := 10) (N := 16) (v := (gL s 11 (ix a1))) rfl rfl (by decide) h552.1 rfl ?_
              have h553 := h552.2
              refine wpc_sl (n := 1) (c' := 21) (pc' := 163) (ls' := [some (.ref 0), some (.int a1), some (.int a2)]) (st' := [.int (Int64.toInt32 (gL s 11 (ix a1)))]) (s' := s) rfl ?_
              exact wpc_ret rfl rfl (fun q => absurd q (by decide)) rfl ⟨(Int64.toInt32 (gL s 11 (ix a1))), rfl, h553⟩
            · have h554 := h531.2.2.2.2.2.2.2.2.2.2.1 (Int32.toInt_inj.mp (hx.trans (by decide)))
              refine wpc_sl (n := 3) (c' := 21) (pc' := 169) (ls' := [some (.ref 0), some (.int a1), some (.int a2)]) (st' := [.int a1, .ref 14]) (s' := s) rfl ?_
              refine wpc_ldaJ (a := 13) (N := 16) (v := (gL s 14 (ix a1))) rfl rfl (by decide) h554.1 rfl ?_
              have h555 := h554.2
              refine wpc_sl (n := 1) (c' := 21) (pc' := 171) (ls' := [some (.ref 0), some (.int a1), some (.int a2)]) (st' := [.int (Int64.toInt32 (gL s 14 (ix a1)))]) (s' := s) rfl ?_
              exact wpc_ret rfl rfl (fun q => absurd q (by decide)) rfl ⟨(Int64.toInt32 (gL s 14 (ix a1))), rfl, h555⟩
            · have h556 := h531.2.2.2.2.2.2.2.2.2.2.2 hx
              refine wpc_sl (n := 3) (c' := 21) (pc' := 177) (ls' := [some (.ref 0), some (.int a1), some (.int a2)]) (st' := [.int a1, .ref 15]) (s' := s) rfl ?_
              refine wpc_ldaJ (a := 14) (N := 16) (v := (gL s 15 (ix a1))) rfl rfl (by decide) h556.1 rfl ?_
              have h557 := h556.2
              refine wpc_sl (n := 1) (c' := 21) (pc' := 179) (ls' := [some (.ref 0), some (.int a1), some (.int a2)]) (st' := [.int (Int64.toInt32 (gL s 15 (ix a1)))]) (s' := s) rfl ?_
              exact wpc_ret rfl rfl (fun q => absurd q (by decide)) rfl ⟨(Int64.toInt32 (gL s 15 (ix a1))), rfl, h557⟩
      · have h525 := h521.2 hc523
        refine wpc_sl (n := 1) (c' := 21) (pc' := 19) (ls' := [some (.ref 0), some (.int a1), some (.int a2)]) (st' := [.int (0 : Int32)]) (s' := s) rfl ?_
        exact wpc_ret rfl rfl (fun q => absurd q (by decide)) rfl ⟨(0 : Int32), rfl, h525⟩
    · have h522 := h519.2 hc520
      refine wpc_sl (n := 1) (c' := 21) (pc' := 19) (ls' := [some (.ref 0), some (.int a1), some (.int a2)]) (st' := [.int (0 : Int32)]) (s' := s) rfl ?_
      exact wpc_ret rfl rfl (fun q => absurd q (by decide)) rfl ⟨(0 : Int32), rfl, h522⟩
theorem c12_in (a1 : Int32) (s : St) (Q : Int32 → St → Prop) (h : ((a1 = (0 : Int32)) → Q (gI s 0 42) s) ∧ ((a1 = (1 : Int32)) → Q (gI s 0 40) s) ∧ ((a1 = (2 : Int32)) → Q (gI s 0 41) s) ∧ ((a1 = (3 : Int32)) → Q (gI s 0 39) s) ∧ ((a1 = (4 : Int32)) → Q (gI s 0 43) s) ∧ (((a1).toInt < 0 ∨ (a1).toInt > 4) → Q (0 : Int32) s)) : calI PP 12 21 [.ref 0, .int a1] s Q := by
  refine cal_of (me := cm12) (ls := [some (.ref 0), some (.int a1)]) rfl (Nat.le_of_ble_eq_true rfl) rfl ?_
  refine wpc_sl (n := 1) (c' := 21) (pc' := 1) (ls' := [some (.ref 0), some (.int a1)]) (st' := [.int a1]) (s' := s) rfl ?_
  refine wpc_tsw (x := a1) rfl (by decide) (by decide) (by decide) ⟨fun hx => ?_, fun hx => ?_, fun hx => ?_, fun hx => ?_, fun hx => ?_, trivial⟩ (fun hx => ?_)
  · have h566 := h.1 (Int32.toInt_inj.mp (hx.trans (by decide)))
    refine wpc_sl (n := 2) (c' := 21) (pc' := 40) (ls' := [some (.ref 0), some (.int a1)]) (st' := [.int (gI s 0 42)]) (s' := s) rfl ?_
    exact wpc_ret rfl rfl (fun q => absurd q (by decide)) rfl ⟨(gI s 0 42), rfl, h566⟩
  · have h567 := h.2.1 (Int32.toInt_inj.mp (hx.trans (by decide)))
    refine wpc_sl (n := 2) (c' := 21) (pc' := 45) (ls' := [some (.ref 0), some (.int a1)]) (st' := [.int (gI s 0 40)]) (s' := s) rfl ?_
    exact wpc_ret rfl rfl (fun q => absurd q (by decide)) rfl ⟨(gI s 0 40), rfl, h567⟩
  · have h568 := h.2.2.1 (Int32.toInt_inj.mp (hx.trans (by decide)))
    refine wpc_sl (n := 2) (c' := 21) (pc' := 50) (ls' := [some (.ref 0), some (.int a1)]) (st' := [.int (gI s 0 41)]) (s' := s) rfl ?_
    exact wpc_ret rfl rfl (fun q => absurd q (by decide)) rfl ⟨(gI s 0 41), rfl, h568⟩
  · have h569 := h.2.2.2.1 (Int32.toInt_inj.mp (hx.trans (by decide)))
    refine wpc_sl (n := 2) (c' := 21) (pc' := 55) (ls' := [some (.ref 0), some (.int a1)]) (st' := [.int (gI s 0 39)]) (s' := s) rfl ?_
    exact wpc_ret rfl rfl (fun q => absurd q (by decide)) rfl ⟨(gI s 0 39), rfl, h569⟩
  · have h570 := h.2.2.2.2.1 (Int32.toInt_inj.mp (hx.trans (by decide)))
    refine wpc_sl (n := 2) (c' := 21) (pc' := 60) (ls' := [some (.ref 0), some (.int a1)]) (st' := [.int (gI s 0 43)]) (s' := s) rfl ?_
    exact wpc_ret rfl rfl (fun q => absurd q (by decide)) rfl ⟨(gI s 0 43), rfl, h570⟩
  · have h571 := h.2.2.2.2.2 hx
    refine wpc_sl (n := 1) (c' := 21) (pc' := 62) (ls' := [some (.ref 0), some (.int a1)]) (st' := [.int (0 : Int32)]) (s' := s) rfl ?_
    exact wpc_ret rfl rfl (fun q => absurd q (by decide)) rfl ⟨(0 : Int32), rfl, h571⟩
theorem c11_in (a1 : Int32) (a2 : Int32) (s : St) (Q : Int32 → St → Prop) (h : ((a1 < (0 : Int32)) → Q (0 : Int32) s) ∧ (¬ (a1 < (0 : Int32)) → ((a1 < (gI s 0 40)) → ((a1 < (8 : Int32)) → ((a2 = (0 : Int32)) → ((a1 = (0 : Int32)) → Q (-1 : Int32) s) ∧ (¬ (a1 = (0 : Int32)) → inb 8 a1 ∧ Q (gI s 1 (ix a1)) s)) ∧ (¬ (a2 = (0 : Int32)) → ((a2 = (1 : Int32)) → ((a1 = (0 : Int32)) → Q (0 : Int32) s) ∧ (¬ (a1 = (0 : Int32)) → inb 8 a1 ∧ Q (gI s 2 (ix a1)) s)) ∧ (¬ (a2 = (1 : Int32)) → ((a2 = (2 : Int32)) → calV PP 19 21 [.ref 0] s (fun s598 => inb 8 a1 ∧ Q (Int64.toInt32 (gL s598 3 (ix a1))) s598)) ∧ (¬ (a2 = (2 : Int32)) → ((a2 = (3 : Int32)) → calV PP 19 21 [.ref 0] s (fun s605 => inb 8 a1 ∧ Q (Int64.toInt32 (gL s605 4 (ix a1))) s605)) ∧ (¬ (a2 = (3 : Int32)) → Q (0 : Int32) s))))) ∧ (¬ (a1 < (8 : Int32)) → Q (0 : Int32) s)) ∧ (¬ (a1 < (gI s 0 40)) → Q (0 : Int32) s))) : calI PP 11 21 [.ref 0, .int a1, .int a2] s Q := by
  refine cal_of (me := cm11) (ls := [some (.ref 0), some (.int a1), some (.int a2)]) rfl (Nat.le_of_ble_eq_true rfl) rfl ?_
  refine wpc_sl (n := 1) (c' := 21) (pc' := 1) (ls' := [some (.ref 0), some (.int a1), some (.int a2)]) (st' := [.int a1]) (s' := s) rfl ?_
  refine wpc_if (a := 18) (b := 4) rfl (by decide) rfl rfl (wpc_br (p := a1 < (0 : Int32)) ⟨fun hc572 => ?_, fun hc572 => ?_⟩)
  · have h573 := h.1 hc572
    refine wpc_sl (n := 1) (c' := 21) (pc' := 19) (ls' := [some (.ref 0), some (.int a1), some (.int a2)]) (st' := [.int (0 : Int32)]) (s' := s) rfl ?_
    exact wpc_ret rfl rfl (fun q => absurd q (by decide)) rfl ⟨(0 : Int32), rfl, h573⟩
  · have h574 := h.2 hc572
    refine wpc_sl (n := 3) (c' := 21) (pc' := 9) (ls' := [some (.ref 0), some (.int a1), some (.int a2)]) (st' := [.int (gI s 0 40), .int a1]) (s' := s) rfl ?_
    refine wpc_icmp (a := 18) (b := 12) rfl (by decide) rfl rfl (wpc_br (p := a1 < (gI s 0 40)) ⟨fun hc575 => ?_, fun hc575 => ?_⟩)
    · have h576 := h574.1 hc575
      refine wpc_sl (n := 2) (c' := 21) (pc' := 15) (ls' := [some (.ref 0), some (.int a1), some (.int a2)]) (st' := [.int (8 : Int32), .int a1]) (s' := s) rfl ?_
      refine wpc_icmp (a := 20) (b := 18) rfl (by decide) rfl rfl (wpc_br (p := a1 < (8 : Int32)) ⟨fun hc578 => ?_, fun hc578 => ?_⟩)
      · have h579 := h576.1 hc578
        refine wpc_sl (n := 1) (c' := 21) (pc' := 21) (ls' := [some (.ref 0), some (.int a1), some (.int a2)]) (st' := [.int a2]) (s' := s) rfl ?_
        refine wpc_if (a := 39) (b := 24) rfl (by decide) rfl rfl (wpc_br (p := a2 = (0 : Int32)) ⟨fun hc581 => ?_, fun hc581 => ?_⟩)
        · have h582 := h579.1 hc581
          refine wpc_sl (n := 1) (c' := 21) (pc' := 25) (ls' := [some (.ref 0), some (.int a1), some (.int a2)]) (st' := [.int a1]) (s' := s) rfl ?_
          refine wpc_if (a := 32) (b := 28) rfl (by decide) rfl rfl (wpc_br (p := a1 = (0 : Int32)) ⟨fun hc584 => ?_, fun hc584 => ?_⟩)
          · have h585 := h582.1 hc584
            refine wpc_sl (n := 2) (c' := 21) (pc' := 38) (ls' := [some (.ref 0), some (.int a1), some (.int a2)]) (st' := [.int (-1 : Int32)]) (s' := s) rfl ?_
            exact wpc_ret rfl rfl (fun q => absurd q (by decide)) rfl ⟨(-1 : Int32), rfl, h585⟩
          · have h586 := h582.2 hc584
            refine wpc_sl (n := 3) (c' := 21) (pc' := 37) (ls' := [some (.ref 0), some (.int a1), some (.int a2)]) (st' := [.int a1, .ref 1]) (s' := s) rfl ?_
            refine wpc_ldaI (a := 0) (N := 8) (v := (gI s 1 (ix a1))) rfl rfl (by decide) h586.1 rfl ?_
            have h587 := h586.2
            exact wpc_ret rfl rfl (fun q => absurd q (by decide)) rfl ⟨(gI s 1 (ix a1)), rfl, h587⟩
        · have h583 := h579.2 hc581
          refine wpc_sl (n := 2) (c' := 21) (pc' := 41) (ls' := [some (.ref 0), some (.int a1), some (.int a2)]) (st' := [.int (1 : Int32), .int a2]) (s' := s) rfl ?_
          refine wpc_icmp (a := 59) (b := 44) rfl (by decide) rfl rfl (wpc_br (p := a2 = (1 : Int32)) ⟨fun hc588 => ?_, fun hc588 => ?_⟩)
          · have h589 := h583.1 hc588
            refine wpc_sl (n := 1) (c' := 21) (pc' := 45) (ls' := [some (.ref 0), some (.int a1), some (.int a2)]) (st' := [.int a1]) (s' := s) rfl ?_
            refine wpc_if (a := 52) (b := 48) rfl (by decide) rfl rfl (wpc_br (p := a1 = (0 : Int32)) ⟨fun hc591 => ?_, fun hc591 => ?_⟩)
            · have h592 := h589.1 hc591
              refine wpc_sl (n := 2) (c' := 21) (pc' := 58) (ls' := [some (.ref 0), some (.int a1), some (.int a2)]) (st' := [.int (0 : Int32)]) (s' := s) rfl ?_
              exact wpc_ret rfl rfl (fun q => absurd q (by decide)) rfl ⟨(0 : Int32), rfl, h592⟩
            · have h593 := h589.2 hc591
              refine wpc_sl (n := 3) (c' := 21) (pc' := 57) (ls' := [some (.ref 0), some (.int a1), some (.int a2)]) (st' := [.int a1, .ref 2]) (s' := s) rfl ?_
              refine wpc_ldaI (a := 1) (N := 8) (v := (gI s 2 (ix a1))) rfl rfl (by decide) h593.1 rfl ?_
              have h594 := h593.2
              exact wpc_ret rfl rfl (fun q => absurd q (by decide)) rfl ⟨(gI s 2 (ix a1)), rfl, h594⟩
          · have h590 := h583.2 hc588
            refine wpc_sl (n := 2) (c' := 21) (pc' := 61) (ls' := [some (.ref 0), some (.int a1), some (.int a2)]) (st' := [.int (2 : Int32), .int a2]) (s' := s) rfl ?_
            refine wpc_icmp (a := 76) (b := 64) rfl (by decide) rfl rfl (wpc_br (p := a2 = (2 : Int32)) ⟨fun hc595 => ?_, fun hc595 => ?_⟩)
            · have h596 := h590.1 hc595
              refine wpc_sl (n := 1) (c' := 21) (pc' := 65) (ls' := [some (.ref 0), some (.int a1), some (.int a2)]) (st' := [.ref 0]) (s' := s) rfl ?_
              refine wpc_callV (m' := 19) (me' := cm19) (as := []) (r := []) rfl rfl rfl rfl rfl ⟨by decide, (by first | decide | exact Nat.le_of_ble_eq_true rfl), (by first | decide | exact Nat.le_of_ble_eq_true rfl), rfl⟩ (calV.mono h596 fun s598 h600 => ?_)
              refine wpc_sl (n := 3) (c' := 21) (pc' := 73) (ls' := [some (.ref 0), some (.int a1), some (.int a2)]) (st' := [.int a1, .ref 3]) (s' := s598) rfl ?_
              refine wpc_ldaJ (a := 2) (N := 8) (v := (gL s598 3 (ix a1))) rfl rfl (by decide) h600.1 rfl ?_
              have h601 := h600.2
              refine wpc_sl (n := 1) (c' := 21) (pc' := 75) (ls' := [some (.ref 0), some (.int a1), some (.int a2)]) (st' := [.int (Int64.toInt32 (gL s598 3 (ix a1)))]) (s' := s598) rfl ?_
              exact wpc_ret rfl rfl (fun q => absurd q (by decide)) rfl ⟨(Int64.toInt32 (gL s598 3 (ix a1))), rfl, h601⟩
            · have h597 := h590.2 hc595
              refine wpc_sl (n := 2) (c' := 21) (pc' := 78) (ls' := [some (.ref 0), some (.int a1), some (.int a2)]) (st' := [.int (3 : Int32), .int a2]) (s' := s) rfl ?_
              refine wpc_icmp (a := 93) (b := 81) rfl (by decide) rfl rfl (wpc_br (p := a2 = (3 : Int32)) ⟨fun hc602 => ?_, fun hc602 => ?_⟩)
              · have h603 := h597.1 hc602
                refine wpc_sl (n := 1) (c' := 21) (pc' := 82) (ls' := [some (.ref 0), some (.int a1), some (.int a2)]) (st' := [.ref 0]) (s' := s) rfl ?_
                refine wpc_callV (m' := 19) (me' := cm19) (as := []) (r := []) rfl rfl rfl rfl rfl ⟨by decide, (by first | decide | exact Nat.le_of_ble_eq_true rfl), (by first | decide | exact Nat.le_of_ble_eq_true rfl), rfl⟩ (calV.mono h603 fun s605 h607 => ?_)
                refine wpc_sl (n := 3) (c' := 21) (pc' := 90) (ls' := [some (.ref 0), some (.int a1), some (.int a2)]) (st' := [.int a1, .ref 4]) (s' := s605) rfl ?_
                refine wpc_ldaJ (a := 3) (N := 8) (v := (gL s605 4 (ix a1))) rfl rfl (by decide) h607.1 rfl ?_
                have h608 := h607.2
                refine wpc_sl (n := 1) (c' := 21) (pc' := 92) (ls' := [some (.ref 0), some (.int a1), some (.int a2)]) (st' := [.int (Int64.toInt32 (gL s605 4 (ix a1)))]) (s' := s605) rfl ?_
                exact wpc_ret rfl rfl (fun q => absurd q (by decide)) rfl ⟨(Int64.toInt32 (gL s605 4 (ix a1))), rfl, h608⟩
              · have h604 := h597.2 hc602
                refine wpc_sl (n := 1) (c' := 21) (pc' := 94) (ls' := [some (.ref 0), some (.int a1), some (.int a2)]) (st' := [.int (0 : Int32)]) (s' := s) rfl ?_
                exact wpc_ret rfl rfl (fun q => absurd q (by decide)) rfl ⟨(0 : Int32), rfl, h604⟩
      · have h580 := h576.2 hc578
        refine wpc_sl (n := 1) (c' := 21) (pc' := 19) (ls' := [some (.ref 0), some (.int a1), some (.int a2)]) (st' := [.int (0 : Int32)]) (s' := s) rfl ?_
        exact wpc_ret rfl rfl (fun q => absurd q (by decide)) rfl ⟨(0 : Int32), rfl, h580⟩
    · have h577 := h574.2 hc575
      refine wpc_sl (n := 1) (c' := 21) (pc' := 19) (ls' := [some (.ref 0), some (.int a1), some (.int a2)]) (st' := [.int (0 : Int32)]) (s' := s) rfl ?_
      exact wpc_ret rfl rfl (fun q => absurd q (by decide)) rfl ⟨(0 : Int32), rfl, h577⟩
theorem l0_in (a0 : Int32) (a1 : Int32) (a2 : Int32) (a3 : Int32)  (Q : Int32 → Wd → Prop) (h : ∀ m1, m1 = (if a0 < (1 : Int32) then (1 : Int32) else (if (16 : Int32) < a0 then (16 : Int32) else a0)) → (calV PP 0 0 [.ref 0, .int a0] s0 (fun s4 => calI PP 2 21 [.ref 0, .int (0 : Int32), .int ((a3 &&& (511 : Int32)) + (1 : Int32))] s4 (fun v7 s6 => calI PP 3 21 [.ref 0, .int (0 : Int32), .int ((a1 &&& (511 : Int32)) + (1 : Int32))] s6 (fun v10 s9 => calI PP 3 21 [.ref 0, .int (1 : Int32), .int ((a2 &&& (511 : Int32)) + (1 : Int32))] s9 (fun v13 s12 => ∀ m15, m15 = (if v7 = (1 : Int32) then (if v10 = (0 : Int32) then (if v13 = (1 : Int32) then (1 : Int32) else (0 : Int32)) else (0 : Int32)) else (0 : Int32)) → (wplI PP QQ none 0 lm0 112 [none, none, none, none, some (.int ((a1 &&& (511 : Int32)) + (1 : Int32))), none, some (.int ((a3 &&& (511 : Int32)) + (1 : Int32))), some (.int m1), some (.ref 1), none, none, none, none, none, none, none, none, none, none, none, none, none, none, none, none, none, none, none, none, none, none, none, none] [.int m15] (W1 s12) Q))))))) : lalI PP QQ none 0 [.int a0, .int a1, .int a2, .int a3] W0 Q := by
  refine lal_of (me := lm0) (ls := [some (.int a0), some (.int a1), some (.int a2), some (.int a3), none, none, none, none, none, none, none, none, none, none, none, none, none, none, none, none, none, none, none, none, none, none, none, none, none, none, none, none, none]) rfl (Nat.le_of_ble_eq_true rfl) rfl ?_
  refine wpl_sl (n := 5) (pc' := 7) (ls' := [some (.int a0), some (.int a1), some (.int a2), some (.int a3), none, none, none, none, none, none, none, none, none, none, none, none, none, none, none, none, none, none, none, none, none, none, none, none, none, none, none, none, none]) (st' := [.int ((a1 &&& (511 : Int32)) + (1 : Int32))]) rfl ?_
  refine wpl_sl (n := 5) (pc' := 15) (ls' := [some (.int a0), some (.int a1), some (.int a2), some (.int a3), some (.int ((a1 &&& (511 : Int32)) + (1 : Int32))), none, none, none, none, none, none, none, none, none, none, none, none, none, none, none, none, none, none, none, none, none, none, none, none, none, none, none, none]) (st' := [.int (1 : Int32), .int (a2 &&& (511 : Int32))]) rfl ?_
  refine wpl_sl (n := 5) (pc' := 23) (ls' := [some (.int a0), some (.int a1), some (.int a2), some (.int a3), some (.int ((a1 &&& (511 : Int32)) + (1 : Int32))), some (.int ((a2 &&& (511 : Int32)) + (1 : Int32))), none, none, none, none, none, none, none, none, none, none, none, none, none, none, none, none, none, none, none, none, none, none, none, none, none, none, none]) (st' := [.int (a3 &&& (511 : Int32))]) rfl ?_
  refine wpl_sl (n := 5) (pc' := 29) (ls' := [some (.int a0), some (.int a1), some (.int a2), some (.int a3), some (.int ((a1 &&& (511 : Int32)) + (1 : Int32))), some (.int ((a2 &&& (511 : Int32)) + (1 : Int32))), some (.int ((a3 &&& (511 : Int32)) + (1 : Int32))), none, none, none, none, none, none, none, none, none, none, none, none, none, none, none, none, none, none, none, none, none, none, none, none, none, none]) (st' := [.int (1 : Int32), .int a0]) rfl ?_
  have hm2 : ∀ m1, m1 = (if a0 < (1 : Int32) then (1 : Int32) else (if (16 : Int32) < a0 then (16 : Int32) else a0)) → wplI PP QQ none 0 lm0 48 [some (.int a0), some (.int a1), some (.int a2), some (.int a3), some (.int ((a1 &&& (511 : Int32)) + (1 : Int32))), some (.int ((a2 &&& (511 : Int32)) + (1 : Int32))), some (.int ((a3 &&& (511 : Int32)) + (1 : Int32))), none, none, none, none, none, none, none, none, none, none, none, none, none, none, none, none, none, none, none, none, none, none, none, none, none, none] [.int m1] W0 Q := by
    intro m1 em1
    have h3 := h m1 em1
    refine wpl_sl (n := 1) (pc' := 50) (ls' := [some (.int a0), some (.int a1), some (.int a2), some (.int a3), some (.int ((a1 &&& (511 : Int32)) + (1 : Int32))), some (.int ((a2 &&& (511 : Int32)) + (1 : Int32))), some (.int ((a3 &&& (511 : Int32)) + (1 : Int32))), some (.int m1), none, none, none, none, none, none, none, none, none, none, none, none, none, none, none, none, none, none, none, none, none, none, none, none, none]) (st' := []) rfl ?_
    refine wpl_new0 rfl rfl (by decide) (by decide) ?_
    refine wpl_sl (n := 2) (pc' := 55) (ls' := [some (.int a0), some (.int a1), some (.int a2), some (.int a3), some (.int ((a1 &&& (511 : Int32)) + (1 : Int32))), some (.int ((a2 &&& (511 : Int32)) + (1 : Int32))), some (.int ((a3 &&& (511 : Int32)) + (1 : Int32))), some (.int m1), none, none, none, none, none, none, none, none, none, none, none, none, none, none, none, none, none, none, none, none, none, none, none, none, none]) (st' := [.int a0, .ref 1, .ref 1]) rfl ?_
    refine wpl_ctor0 (me' := cm0) (as := [.int a0]) (r := [.ref 1]) rfl rfl rfl rfl rfl ⟨by decide, by decide, rfl, by decide, by decide⟩ (calV.mono h3 fun s4 h5 => ?_)
    refine wpl_sl (n := 4) (pc' := 65) (ls' := [some (.int a0), some (.int a1), some (.int a2), some (.int a3), some (.int ((a1 &&& (511 : Int32)) + (1 : Int32))), some (.int ((a2 &&& (511 : Int32)) + (1 : Int32))), some (.int ((a3 &&& (511 : Int32)) + (1 : Int32))), some (.int m1), some (.ref 1), none, none, none, none, none, none, none, none, none, none, none, none, none, none, none, none, none, none, none, none, none, none, none, none]) (st' := [.int ((a3 &&& (511 : Int32)) + (1 : Int32)), .int (0 : Int32), .ref 1]) rfl ?_
    refine wpl_v1 (m' := 2) (me' := cm2) (as := [.int (0 : Int32), .int ((a3 &&& (511 : Int32)) + (1 : Int32))]) (r := []) rfl rfl rfl rfl rfl ⟨by decide, (by first | decide | exact Nat.le_of_ble_eq_true rfl), (by first | decide | exact Nat.le_of_ble_eq_true rfl), rfl⟩ (cal_I (calI.mono h5 fun v7 s6 h8 => ?_))
    refine wpl_sl (n := 4) (pc' := 75) (ls' := [some (.int a0), some (.int a1), some (.int a2), some (.int a3), some (.int ((a1 &&& (511 : Int32)) + (1 : Int32))), some (.int ((a2 &&& (511 : Int32)) + (1 : Int32))), some (.int ((a3 &&& (511 : Int32)) + (1 : Int32))), some (.int m1), some (.ref 1), some (.int v7), none, none, none, none, none, none, none, none, none, none, none, none, none, none, none, none, none, none, none, none, none, none, none]) (st' := [.int ((a1 &&& (511 : Int32)) + (1 : Int32)), .int (0 : Int32), .ref 1]) rfl ?_
    refine wpl_v1 (m' := 3) (me' := cm3) (as := [.int (0 : Int32), .int ((a1 &&& (511 : Int32)) + (1 : Int32))]) (r := []) rfl rfl rfl rfl rfl ⟨by decide, (by first | decide | exact Nat.le_of_ble_eq_true rfl), (by first | decide | exact Nat.le_of_ble_eq_true rfl), rfl⟩ (cal_I (calI.mono h8 fun v10 s9 h11 => ?_))
    refine wpl_sl (n := 4) (pc' := 85) (ls' := [some (.int a0), some (.int a1), some (.int a2), some (.int a3), some (.int ((a1 &&& (511 : Int32)) + (1 : Int32))), some (.int ((a2 &&& (511 : Int32)) + (1 : Int32))), some (.int ((a3 &&& (511 : Int32)) + (1 : Int32))), some (.int m1), some (.ref 1), some (.int v7), some (.int v10), none, none, none, none, none, none, none, none, none, none, none, none, none, none, none, none, none, none, none, none, none, none]) (st' := [.int ((a2 &&& (511 : Int32)) + (1 : Int32)), .int (1 : Int32), .ref 1]) rfl ?_
    refine wpl_v1 (m' := 3) (me' := cm3) (as := [.int (1 : Int32), .int ((a2 &&& (511 : Int32)) + (1 : Int32))]) (r := []) rfl rfl rfl rfl rfl ⟨by decide, (by first | decide | exact Nat.le_of_ble_eq_true rfl), (by first | decide | exact Nat.le_of_ble_eq_true rfl), rfl⟩ (cal_I (calI.mono h11 fun v13 s12 h14 => ?_))
    refine wpl_sl (n := 3) (pc' := 93) (ls' := [some (.int a0), some (.int a1), some (.int a2), some (.int a3), some (.int ((a1 &&& (511 : Int32)) + (1 : Int32))), some (.int ((a2 &&& (511 : Int32)) + (1 : Int32))), some (.int ((a3 &&& (511 : Int32)) + (1 : Int32))), some (.int m1), some (.ref 1), some (.int v7), some (.int v10), some (.int v13), none, none, none, none, none, none, none, none, none, none, none, none, none, none, none, none, none, none, none, none, none]) (st' := [.int (1 : Int32), .int v7]) rfl ?_
    have hm16 : ∀ m15, m15 = (if v7 = (1 : Int32) then (if v10 = (0 : Int32) then (if v13 = (1 : Int32) then (1 : Int32) else (0 : Int32)) else (0 : Int32)) else (0 : Int32)) → wplI PP QQ none 0 lm0 112 [some (.int a0), some (.int a1), some (.int a2), some (.int a3), some (.int ((a1 &&& (511 : Int32)) + (1 : Int32))), some (.int ((a2 &&& (511 : Int32)) + (1 : Int32))), some (.int ((a3 &&& (511 : Int32)) + (1 : Int32))), some (.int m1), some (.ref 1), some (.int v7), some (.int v10), some (.int v13), none, none, none, none, none, none, none, none, none, none, none, none, none, none, none, none, none, none, none, none, none] [.int m15] (W1 s12) Q := by
      intro m15 em15
      have h17 := h14 m15 em15
      exact wpl_lle (ls := [none, none, none, none, some (.int ((a1 &&& (511 : Int32)) + (1 : Int32))), none, some (.int ((a3 &&& (511 : Int32)) + (1 : Int32))), some (.int m1), some (.ref 1), none, none, none, none, none, none, none, none, none, none, none, none, none, none, none, none, none, none, none, none, none, none, none, none]) ⟨rfl, rfl, rfl, rfl, trivial⟩ h17
    refine wpl_icmp (a := 111) (b := 96) rfl (by decide) rfl rfl (wpl_br (p := v7 = (1 : Int32)) ⟨fun hc18 => ?_, fun hc18 => ?_⟩)
    · refine wpl_sl (n := 1) (pc' := 98) (ls' := [some (.int a0), some (.int a1), some (.int a2), some (.int a3), some (.int ((a1 &&& (511 : Int32)) + (1 : Int32))), some (.int ((a2 &&& (511 : Int32)) + (1 : Int32))), some (.int ((a3 &&& (511 : Int32)) + (1 : Int32))), some (.int m1), some (.ref 1), some (.int v7), some (.int v10), some (.int v13), none, none, none, none, none, none, none, none, none, none, none, none, none, none, none, none, none, none, none, none, none]) (st' := [.int v10]) rfl ?_
      refine wpl_if (a := 111) (b := 101) rfl (by decide) rfl rfl (wpl_br (p := v10 = (0 : Int32)) ⟨fun hc19 => ?_, fun hc19 => ?_⟩)
      · refine wpl_sl (n := 2) (pc' := 104) (ls' := [some (.int a0), some (.int a1), some (.int a2), some (.int a3), some (.int ((a1 &&& (511 : Int32)) + (1 : Int32))), some (.int ((a2 &&& (511 : Int32)) + (1 : Int32))), some (.int ((a3 &&& (511 : Int32)) + (1 : Int32))), some (.int m1), some (.ref 1), some (.int v7), some (.int v10), some (.int v13), none, none, none, none, none, none, none, none, none, none, none, none, none, none, none, none, none, none, none, none, none]) (st' := [.int (1 : Int32), .int v13]) rfl ?_
        refine wpl_icmp (a := 111) (b := 107) rfl (by decide) rfl rfl (wpl_br (p := v13 = (1 : Int32)) ⟨fun hc20 => ?_, fun hc20 => ?_⟩)
        · refine wpl_sl (n := 2) (pc' := 112) (ls' := [some (.int a0), some (.int a1), some (.int a2), some (.int a3), some (.int ((a1 &&& (511 : Int32)) + (1 : Int32))), some (.int ((a2 &&& (511 : Int32)) + (1 : Int32))), some (.int ((a3 &&& (511 : Int32)) + (1 : Int32))), some (.int m1), some (.ref 1), some (.int v7), some (.int v10), some (.int v13), none, none, none, none, none, none, none, none, none, none, none, none, none, none, none, none, none, none, none, none, none]) (st' := [.int (1 : Int32)]) rfl ?_
          first | exact hm16 _ (by simp only [if_pos hc18, if_pos hc19, if_pos hc20]) | exact wpl_lle (by repeat (first | exact trivial | refine ⟨rfl, ?_⟩)) (hm16 _ (by simp only [if_pos hc18, if_pos hc19, if_pos hc20]))
        · refine wpl_sl (n := 1) (pc' := 112) (ls' := [some (.int a0), some (.int a1), some (.int a2), some (.int a3), some (.int ((a1 &&& (511 : Int32)) + (1 : Int32))), some (.int ((a2 &&& (511 : Int32)) + (1 : Int32))), some (.int ((a3 &&& (511 : Int32)) + (1 : Int32))), some (.int m1), some (.ref 1), some (.int v7), some (.int v10), some (.int v13), none, none, none, none, none, none, none, none, none, none, none, none, none, none, none, none, none, none, none, none, none]) (st' := [.int (0 : Int32)]) rfl ?_
          first | exact hm16 _ (by simp only [if_pos hc18, if_pos hc19, if_neg hc20]) | exact wpl_lle (by repeat (first | exact trivial | refine ⟨rfl, ?_⟩)) (hm16 _ (by simp only [if_pos hc18, if_pos hc19, if_neg hc20]))
      · refine wpl_sl (n := 1) (pc' := 112) (ls' := [some (.int a0), some (.int a1), some (.int a2), some (.int a3), some (.int ((a1 &&& (511 : Int32)) + (1 : Int32))), some (.int ((a2 &&& (511 : Int32)) + (1 : Int32))), some (.int ((a3 &&& (511 : Int32)) + (1 : Int32))), some (.int m1), some (.ref 1), some (.int v7), some (.int v10), some (.int v13), none, none, none, none, none, none, none, none, none, none, none, none, none, none, none, none, none, none, none, none, none]) (st' := [.int (0 : Int32)]) rfl ?_
        first | exact hm16 _ (by simp only [if_pos hc18, if_neg hc19]) | exact wpl_lle (by repeat (first | exact trivial | refine ⟨rfl, ?_⟩)) (hm16 _ (by simp only [if_pos hc18, if_neg hc19]))
    · refine wpl_sl (n := 1) (pc' := 112) (ls' := [some (.int a0), some (.int a1), some (.int a2), some (.int a3), some (.int ((a1 &&& (511 : Int32)) + (1 : Int32))), some (.int ((a2 &&& (511 : Int32)) + (1 : Int32))), some (.int ((a3 &&& (511 : Int32)) + (1 : Int32))), some (.int m1), some (.ref 1), some (.int v7), some (.int v10), some (.int v13), none, none, none, none, none, none, none, none, none, none, none, none, none, none, none, none, none, none, none, none, none]) (st' := [.int (0 : Int32)]) rfl ?_
      first | exact hm16 _ (by simp only [if_neg hc18]) | exact wpl_lle (by repeat (first | exact trivial | refine ⟨rfl, ?_⟩)) (hm16 _ (by simp only [if_neg hc18]))
  refine wpl_icmp (a := 36) (b := 32) rfl (by decide) rfl rfl (wpl_br (p := a0 < (1 : Int32)) ⟨fun hc21 => ?_, fun hc21 => ?_⟩)
  · refine wpl_sl (n := 2) (pc' := 48) (ls' := [some (.int a0), some (.int a1), some (.int a2), some (.int a3), some (.int ((a1 &&& (511 : Int32)) + (1 : Int32))), some (.int ((a2 &&& (511 : Int32)) + (1 : Int32))), some (.int ((a3 &&& (511 : Int32)) + (1 : Int32))), none, none, none, none, none, none, none, none, none, none, none, none, none, none, none, none, none, none, none, none, none, none, none, none, none, none]) (st' := [.int (1 : Int32)]) rfl ?_
    first | exact hm2 _ (by simp only [if_pos hc21]) | exact wpl_lle (by repeat (first | exact trivial | refine ⟨rfl, ?_⟩)) (hm2 _ (by simp only [if_pos hc21]))
  · refine wpl_sl (n := 2) (pc' := 39) (ls' := [some (.int a0), some (.int a1), some (.int a2), some (.int a3), some (.int ((a1 &&& (511 : Int32)) + (1 : Int32))), some (.int ((a2 &&& (511 : Int32)) + (1 : Int32))), some (.int ((a3 &&& (511 : Int32)) + (1 : Int32))), none, none, none, none, none, none, none, none, none, none, none, none, none, none, none, none, none, none, none, none, none, none, none, none, none, none]) (st' := [.int (16 : Int32), .int a0]) rfl ?_
    refine wpl_icmp (a := 47) (b := 42) rfl (by decide) rfl rfl (wpl_br (p := (16 : Int32) < a0) ⟨fun hc22 => ?_, fun hc22 => ?_⟩)
    · refine wpl_sl (n := 2) (pc' := 48) (ls' := [some (.int a0), some (.int a1), some (.int a2), some (.int a3), some (.int ((a1 &&& (511 : Int32)) + (1 : Int32))), some (.int ((a2 &&& (511 : Int32)) + (1 : Int32))), some (.int ((a3 &&& (511 : Int32)) + (1 : Int32))), none, none, none, none, none, none, none, none, none, none, none, none, none, none, none, none, none, none, none, none, none, none, none, none, none, none]) (st' := [.int (16 : Int32)]) rfl ?_
      first | exact hm2 _ (by simp only [if_neg hc21, if_pos hc22]) | exact wpl_lle (by repeat (first | exact trivial | refine ⟨rfl, ?_⟩)) (hm2 _ (by simp only [if_neg hc21, if_pos hc22]))
    · refine wpl_sl (n := 1) (pc' := 48) (ls' := [some (.int a0), some (.int a1), some (.int a2), some (.int a3), some (.int ((a1 &&& (511 : Int32)) + (1 : Int32))), some (.int ((a2 &&& (511 : Int32)) + (1 : Int32))), some (.int ((a3 &&& (511 : Int32)) + (1 : Int32))), none, none, none, none, none, none, none, none, none, none, none, none, none, none, none, none, none, none, none, none, none, none, none, none, none, none]) (st' := [.int a0]) rfl ?_
      first | exact hm2 _ (by simp only [if_neg hc21, if_neg hc22]) | exact wpl_lle (by repeat (first | exact trivial | refine ⟨rfl, ?_⟩)) (hm2 _ (by simp only [if_neg hc21, if_neg hc22]))
theorem l0_112 (x4 : Int32) (x6 : Int32) (x7 : Int32) (y0 : Int32)  (Q : Int32 → Wd → Prop) (h : (¬ (x4 = (0 : Int32))) ∧ (¬ (x6 = (0 : Int32))) ∧ wplI PP QQ none 0 lm0 146 [none, none, none, none, some (.int x4), none, some (.int x6), some (.int x7), some (.ref 1), none, none, none, some (.int y0), some (.long (Int32.toInt64 ((1048576 : Int32) / x4))), none, some (.long (Int32.toInt64 ((1048576 : Int32) / x6))), none, some (.long (0 : Int64)), none, some (.long (Int32.toInt64 ((1048576 : Int32) / x6))), none, some (.int (0 : Int32)), some (.int (0 : Int32)), some (.int (0 : Int32)), none, none, none, none, none, none, none, none, none] [] (W1 s) Q) : wplI PP QQ none 0 lm0 112 [none, none, none, none, some (.int x4), none, some (.int x6), some (.int x7), some (.ref 1), none, none, none, none, none, none, none, none, none, none, none, none, none, none, none, none, none, none, none, none, none, none, none, none] [.int y0] (W1 s) Q := by
  refine wpl_sl (n := 3) (pc' := 118) (ls' := [none, none, none, none, some (.int x4), none, some (.int x6), some (.int x7), some (.ref 1), none, none, none, some (.int y0), none, none, none, none, none, none, none, none, none, none, none, none, none, none, none, none, none, none, none, none]) (st' := [.int x4, .int (1048576 : Int32)]) rfl ?_
  refine wpl_idiv rfl h.1 ?_
  have h23 := h.2
  refine wpl_sl (n := 4) (pc' := 126) (ls' := [none, none, none, none, some (.int x4), none, some (.int x6), some (.int x7), some (.ref 1), none, none, none, some (.int y0), some (.long (Int32.toInt64 ((1048576 : Int32) / x4))), none, none, none, none, none, none, none, none, none, none, none, none, none, none, none, none, none, none, none]) (st' := [.int x6, .int (1048576 : Int32)]) rfl ?_
  refine wpl_idiv rfl h23.1 ?_
  have h24 := h23.2
  refine wpl_sl (n := 5) (pc' := 135) (ls' := [none, none, none, none, some (.int x4), none, some (.int x6), some (.int x7), some (.ref 1), none, none, none, some (.int y0), some (.long (Int32.toInt64 ((1048576 : Int32) / x4))), none, some (.long (Int32.toInt64 ((1048576 : Int32) / x6))), none, some (.long (0 : Int64)), none, none, none, none, none, none, none, none, none, none, none, none, none, none, none]) (st' := [.long (Int32.toInt64 ((1048576 : Int32) / x6))]) rfl ?_
  refine wpl_sl (n := 5) (pc' := 143) (ls' := [none, none, none, none, some (.int x4), none, some (.int x6), some (.int x7), some (.ref 1), none, none, none, some (.int y0), some (.long (Int32.toInt64 ((1048576 : Int32) / x4))), none, some (.long (Int32.toInt64 ((1048576 : Int32) / x6))), none, some (.long (0 : Int64)), none, some (.long (Int32.toInt64 ((1048576 : Int32) / x6))), none, some (.int (0 : Int32)), some (.int (0 : Int32)), none, none, none, none, none, none, none, none, none, none]) (st' := []) rfl ?_
  refine wpl_sl (n := 2) (pc' := 146) (ls' := [none, none, none, none, some (.int x4), none, some (.int x6), some (.int x7), some (.ref 1), none, none, none, some (.int y0), some (.long (Int32.toInt64 ((1048576 : Int32) / x4))), none, some (.long (Int32.toInt64 ((1048576 : Int32) / x6))), none, some (.long (0 : Int64)), none, some (.long (Int32.toInt64 ((1048576 : Int32) / x6))), none, some (.int (0 : Int32)), some (.int (0 : Int32)), some (.int (0 : Int32)), none, none, none, none, none, none, none, none, none]) (st' := []) rfl ?_
  exact h24
theorem l0_146 (x4 : Int32) (x6 : Int32) (x7 : Int32) (x12 : Int32) (x13 : Int64) (x15 : Int64) (x17 : Int64) (x19 : Int64) (x21 : Int32) (x22 : Int32) (x23 : Int32)  (Q : Int32 → Wd → Prop) (h : ((x23 < (8 : Int32)) → calI PP 9 21 [.ref 0, .int x7] s (fun v29 s28 => ∀ m31, m31 = (if (0 : Int32) < (XT.cmpL x17 x19) then (if x12 = (0 : Int32) then (0 : Int32) else (if v29 = (1 : Int32) then (1 : Int32) else (0 : Int32))) else (if x12 = (0 : Int32) then (0 : Int32) else (if v29 = (0 : Int32) then (1 : Int32) else (0 : Int32)))) → ∀ m32, m32 = (if (0 : Int32) < (XT.cmpL x17 x19) then x17 else (x17 + x13)) → ∀ m33, m33 = (if (0 : Int32) < (XT.cmpL x17 x19) then (x19 + x15) else x19) → ∀ m34, m34 = (if (0 : Int32) < (XT.cmpL x17 x19) then x21 else (x21 + (1 : Int32))) → ∀ m35, m35 = (if (0 : Int32) < (XT.cmpL x17 x19) then (x22 + (1 : Int32)) else x22) → (wplI PP QQ none 0 lm0 146 [none, none, none, none, some (.int x4), none, some (.int x6), some (.int x7), some (.ref 1), none, none, none, some (.int m31), some (.long x13), none, some (.long x15), none, some (.long m32), none, some (.long m33), none, some (.int m34), some (.int m35), some (.int (x23 + (1 : Int32))), none, none, none, none, none, none, none, none, none] [] (W1 s28) Q))) ∧ (¬ (x23 < (8 : Int32)) → calI PP 10 21 [.ref 0, .int (0 : Int32), .int (4 : Int32)] s (fun v44 s43 => calI PP 10 21 [.ref 0, .int (1 : Int32), .int (4 : Int32)] s43 (fun v47 s46 => calI PP 10 21 [.ref 0, .int (0 : Int32), .int (8 : Int32)] s46 (fun v50 s49 => calI PP 10 21 [.ref 0, .int (1 : Int32), .int (8 : Int32)] s49 (fun v53 s52 => calI PP 10 21 [.ref 0, .int (0 : Int32), .int (6 : Int32)] s52 (fun v56 s55 => wplI PP QQ none 0 lm0 282 [none, none, none, none, some (.int x4), none, some (.int x6), none, some (.ref 1), none, none, none, some (.int x12), none, none, none, none, some (.long x17), none, some (.long x19), none, some (.int x21), some (.int x22), some (.int v44), some (.int v47), some (.int v50), some (.int v53), some (.int v56), none, none, none, none, none] [] (W1 s55) Q))))))) : wplI PP QQ none 0 lm0 146 [none, none, none, none, some (.int x4), none, some (.int x6), some (.int x7), some (.ref 1), none, none, none, some (.int x12), some (.long x13), none, some (.long x15), none, some (.long x17), none, some (.long x19), none, some (.int x21), some (.int x22), some (.int x23), none, none, none, none, none, none, none, none, none] [] (W1 s) Q := by
  refine wpl_sl (n := 2) (pc' := 150) (ls' := [none, none, none, none, some (.int x4), none, some (.int x6), some (.int x7), some (.ref 1), none, none, none, some (.int x12), some (.long x13), none, some (.long x15), none, some (.long x17), none, some (.long x19), none, some (.int x21), some (.int x22), some (.int x23), none, none, none, none, none, none, none, none, none]) (st' := [.int (8 : Int32), .int x23]) rfl ?_
  refine wpl_icmp (a := 234) (b := 153) rfl (by decide) rfl rfl (wpl_br (p := x23 < (8 : Int32)) ⟨fun hc25 => ?_, fun hc25 => ?_⟩)
  · have h26 := h.1 hc25
    refine wpl_sl (n := 2) (pc' := 157) (ls' := [none, none, none, none, some (.int x4), none, some (.int x6), some (.int x7), some (.ref 1), none, none, none, some (.int x12), some (.long x13), none, some (.long x15), none, some (.long x17), none, some (.long x19), none, some (.int x21), some (.int x22), some (.int x23), none, none, none, none, none, none, none, none, none]) (st' := [.int x7, .ref 1]) rfl ?_
    refine wpl_v1 (m' := 9) (me' := cm9) (as := [.int x7]) (r := []) rfl rfl rfl rfl rfl ⟨by decide, (by first | decide | exact Nat.le_of_ble_eq_true rfl), (by first | decide | exact Nat.le_of_ble_eq_true rfl), rfl⟩ (cal_I (calI.mono h26 fun v29 s28 h30 => ?_))
    refine wpl_sl (n := 4) (pc' := 167) (ls' := [none, none, none, none, some (.int x4), none, some (.int x6), some (.int x7), some (.ref 1), none, none, none, some (.int x12), some (.long x13), none, some (.long x15), none, some (.long x17), none, some (.long x19), none, some (.int x21), some (.int x22), some (.int x23), some (.int v29), none, none, none, none, none, none, none, none]) (st' := [.int (XT.cmpL x17 x19)]) rfl ?_
    have hm36 : ∀ m31, m31 = (if (0 : Int32) < (XT.cmpL x17 x19) then (if x12 = (0 : Int32) then (0 : Int32) else (if v29 = (1 : Int32) then (1 : Int32) else (0 : Int32))) else (if x12 = (0 : Int32) then (0 : Int32) else (if v29 = (0 : Int32) then (1 : Int32) else (0 : Int32)))) → ∀ m32, m32 = (if (0 : Int32) < (XT.cmpL x17 x19) then x17 else (x17 + x13)) → ∀ m33, m33 = (if (0 : Int32) < (XT.cmpL x17 x19) then (x19 + x15) else x19) → ∀ m34, m34 = (if (0 : Int32) < (XT.cmpL x17 x19) then x21 else (x21 + (1 : Int32))) → ∀ m35, m35 = (if (0 : Int32) < (XT.cmpL x17 x19) then (x22 + (1 : Int32)) else x22) → wplI PP QQ none 0 lm0 228 [none, none, none, none, some (.int x4), none, some (.int x6), some (.int x7), some (.ref 1), none, none, none, some (.int m31), some (.long x13), none, some (.long x15), none, some (.long m32), none, some (.long m33), none, some (.int m34), some (.int m35), some (.int x23), some (.int v29), none, none, none, none, none, none, none, none] [] (W1 s28) Q := by
      intro m31 em31 m32 em32 m33 em33 m34 em34 m35 em35
      have h37 := h30 m31 em31 m32 em32 m33 em33 m34 em34 m35 em35
      refine wpl_sl (n := 2) (pc' := 146) (ls' := [none, none, none, none, some (.int x4), none, some (.int x6), some (.int x7), some (.ref 1), none, none, none, some (.int m31), some (.long x13), none, some (.long x15), none, some (.long m32), none, some (.long m33), none, some (.int m34), some (.int m35), some (.int (x23 + (1 : Int32))), some (.int v29), none, none, none, none, none, none, none, none]) (st' := []) rfl ?_
      exact wpl_lle (ls := [none, none, none, none, some (.int x4), none, some (.int x6), some (.int x7), some (.ref 1), none, none, none, some (.int m31), some (.long x13), none, some (.long x15), none, some (.long m32), none, some (.long m33), none, some (.int m34), some (.int m35), some (.int (x23 + (1 : Int32))), none, none, none, none, none, none, none, none, none]) ⟨rfl, rfl, rfl, rfl, rfl, rfl, rfl, rfl, rfl, rfl, rfl, rfl, trivial⟩ h37
    refine wpl_if (a := 200) (b := 170) rfl (by decide) rfl rfl (wpl_br (p := (0 : Int32) < (XT.cmpL x17 x19)) ⟨fun hc38 => ?_, fun hc38 => ?_⟩)
    · refine wpl_sl (n := 1) (pc' := 202) (ls' := [none, none, none, none, some (.int x4), none, some (.int x6), some (.int x7), some (.ref 1), none, none, none, some (.int x12), some (.long x13), none, some (.long x15), none, some (.long x17), none, some (.long x19), none, some (.int x21), some (.int x22), some (.int x23), some (.int v29), none, none, none, none, none, none, none, none]) (st' := [.int x12]) rfl ?_
      refine wpl_if (a := 215) (b := 205) rfl (by decide) rfl rfl (wpl_br (p := x12 = (0 : Int32)) ⟨fun hc39 => ?_, fun hc39 => ?_⟩)
      · refine wpl_sl (n := 7) (pc' := 228) (ls' := [none, none, none, none, some (.int x4), none, some (.int x6), some (.int x7), some (.ref 1), none, none, none, some (.int (0 : Int32)), some (.long x13), none, some (.long x15), none, some (.long x17), none, some (.long (x19 + x15)), none, some (.int x21), some (.int (x22 + (1 : Int32))), some (.int x23), some (.int v29), none, none, none, none, none, none, none, none]) (st' := []) rfl ?_
        first | exact hm36 _ (by simp only [if_pos hc38, if_pos hc39]) _ (by simp only [if_pos hc38, if_pos hc39]) _ (by simp only [if_pos hc38, if_pos hc39]) _ (by simp only [if_pos hc38, if_pos hc39]) _ (by simp only [if_pos hc38, if_pos hc39]) | exact wpl_lle (by repeat (first | exact trivial | refine ⟨rfl, ?_⟩)) (hm36 _ (by simp only [if_pos hc38, if_pos hc39]) _ (by simp only [if_pos hc38, if_pos hc39]) _ (by simp only [if_pos hc38, if_pos hc39]) _ (by simp only [if_pos hc38, if_pos hc39]) _ (by simp only [if_pos hc38, if_pos hc39]))
      · refine wpl_sl (n := 2) (pc' := 208) (ls' := [none, none, none, none, some (.int x4), none, some (.int x6), some (.int x7), some (.ref 1), none, none, none, some (.int x12), some (.long x13), none, some (.long x15), none, some (.long x17), none, some (.long x19), none, some (.int x21), some (.int x22), some (.int x23), some (.int v29), none, none, none, none, none, none, none, none]) (st' := [.int (1 : Int32), .int v29]) rfl ?_
        refine wpl_icmp (a := 215) (b := 211) rfl (by decide) rfl rfl (wpl_br (p := v29 = (1 : Int32)) ⟨fun hc40 => ?_, fun hc40 => ?_⟩)
        · refine wpl_sl (n := 8) (pc' := 228) (ls' := [none, none, none, none, some (.int x4), none, some (.int x6), some (.int x7), some (.ref 1), none, none, none, some (.int (1 : Int32)), some (.long x13), none, some (.long x15), none, some (.long x17), none, some (.long (x19 + x15)), none, some (.int x21), some (.int (x22 + (1 : Int32))), some (.int x23), some (.int v29), none, none, none, none, none, none, none, none]) (st' := []) rfl ?_
          first | exact hm36 _ (by simp only [if_pos hc38, if_neg hc39, if_pos hc40]) _ (by simp only [if_pos hc38, if_neg hc39, if_pos hc40]) _ (by simp only [if_pos hc38, if_neg hc39, if_pos hc40]) _ (by simp only [if_pos hc38, if_neg hc39, if_pos hc40]) _ (by simp only [if_pos hc38, if_neg hc39, if_pos hc40]) | exact wpl_lle (by repeat (first | exact trivial | refine ⟨rfl, ?_⟩)) (hm36 _ (by simp only [if_pos hc38, if_neg hc39, if_pos hc40]) _ (by simp only [if_pos hc38, if_neg hc39, if_pos hc40]) _ (by simp only [if_pos hc38, if_neg hc39, if_pos hc40]) _ (by simp only [if_pos hc38, if_neg hc39, if_pos hc40]) _ (by simp only [if_pos hc38, if_neg hc39, if_pos hc40]))
        · refine wpl_sl (n := 7) (pc' := 228) (ls' := [none, none, none, none, some (.int x4), none, some (.int x6), some (.int x7), some (.ref 1), none, none, none, some (.int (0 : Int32)), some (.long x13), none, some (.long x15), none, some (.long x17), none, some (.long (x19 + x15)), none, some (.int x21), some (.int (x22 + (1 : Int32))), some (.int x23), some (.int v29), none, none, none, none, none, none, none, none]) (st' := []) rfl ?_
          first | exact hm36 _ (by simp only [if_pos hc38, if_neg hc39, if_neg hc40]) _ (by simp only [if_pos hc38, if_neg hc39, if_neg hc40]) _ (by simp only [if_pos hc38, if_neg hc39, if_neg hc40]) _ (by simp only [if_pos hc38, if_neg hc39, if_neg hc40]) _ (by simp only [if_pos hc38, if_neg hc39, if_neg hc40]) | exact wpl_lle (by repeat (first | exact trivial | refine ⟨rfl, ?_⟩)) (hm36 _ (by simp only [if_pos hc38, if_neg hc39, if_neg hc40]) _ (by simp only [if_pos hc38, if_neg hc39, if_neg hc40]) _ (by simp only [if_pos hc38, if_neg hc39, if_neg hc40]) _ (by simp only [if_pos hc38, if_neg hc39, if_neg hc40]) _ (by simp only [if_pos hc38, if_neg hc39, if_neg hc40]))
    · refine wpl_sl (n := 1) (pc' := 172) (ls' := [none, none, none, none, some (.int x4), none, some (.int x6), some (.int x7), some (.ref 1), none, none, none, some (.int x12), some (.long x13), none, some (.long x15), none, some (.long x17), none, some (.long x19), none, some (.int x21), some (.int x22), some (.int x23), some (.int v29), none, none, none, none, none, none, none, none]) (st' := [.int x12]) rfl ?_
      refine wpl_if (a := 184) (b := 175) rfl (by decide) rfl rfl (wpl_br (p := x12 = (0 : Int32)) ⟨fun hc41 => ?_, fun hc41 => ?_⟩)
      · refine wpl_sl (n := 8) (pc' := 228) (ls' := [none, none, none, none, some (.int x4), none, some (.int x6), some (.int x7), some (.ref 1), none, none, none, some (.int (0 : Int32)), some (.long x13), none, some (.long x15), none, some (.long (x17 + x13)), none, some (.long x19), none, some (.int (x21 + (1 : Int32))), some (.int x22), some (.int x23), some (.int v29), none, none, none, none, none, none, none, none]) (st' := []) rfl ?_
        first | exact hm36 _ (by simp only [if_neg hc38, if_pos hc41]) _ (by simp only [if_neg hc38, if_pos hc41]) _ (by simp only [if_neg hc38, if_pos hc41]) _ (by simp only [if_neg hc38, if_pos hc41]) _ (by simp only [if_neg hc38, if_pos hc41]) | exact wpl_lle (by repeat (first | exact trivial | refine ⟨rfl, ?_⟩)) (hm36 _ (by simp only [if_neg hc38, if_pos hc41]) _ (by simp only [if_neg hc38, if_pos hc41]) _ (by simp only [if_neg hc38, if_pos hc41]) _ (by simp only [if_neg hc38, if_pos hc41]) _ (by simp only [if_neg hc38, if_pos hc41]))
      · refine wpl_sl (n := 1) (pc' := 177) (ls' := [none, none, none, none, some (.int x4), none, some (.int x6), some (.int x7), some (.ref 1), none, none, none, some (.int x12), some (.long x13), none, some (.long x15), none, some (.long x17), none, some (.long x19), none, some (.int x21), some (.int x22), some (.int x23), some (.int v29), none, none, none, none, none, none, none, none]) (st' := [.int v29]) rfl ?_
        refine wpl_if (a := 184) (b := 180) rfl (by decide) rfl rfl (wpl_br (p := v29 = (0 : Int32)) ⟨fun hc42 => ?_, fun hc42 => ?_⟩)
        · refine wpl_sl (n := 9) (pc' := 228) (ls' := [none, none, none, none, some (.int x4), none, some (.int x6), some (.int x7), some (.ref 1), none, none, none, some (.int (1 : Int32)), some (.long x13), none, some (.long x15), none, some (.long (x17 + x13)), none, some (.long x19), none, some (.int (x21 + (1 : Int32))), some (.int x22), some (.int x23), some (.int v29), none, none, none, none, none, none, none, none]) (st' := []) rfl ?_
          first | exact hm36 _ (by simp only [if_neg hc38, if_neg hc41, if_pos hc42]) _ (by simp only [if_neg hc38, if_neg hc41, if_pos hc42]) _ (by simp only [if_neg hc38, if_neg hc41, if_pos hc42]) _ (by simp only [if_neg hc38, if_neg hc41, if_pos hc42]) _ (by simp only [if_neg hc38, if_neg hc41, if_pos hc42]) | exact wpl_lle (by repeat (first | exact trivial | refine ⟨rfl, ?_⟩)) (hm36 _ (by simp only [if_neg hc38, if_neg hc41, if_pos hc42]) _ (by simp only [if_neg hc38, if_neg hc41, if_pos hc42]) _ (by simp only [if_neg hc38, if_neg hc41, if_pos hc42]) _ (by simp only [if_neg hc38, if_neg hc41, if_pos hc42]) _ (by simp only [if_neg hc38, if_neg hc41, if_pos hc42]))
        · refine wpl_sl (n := 8) (pc' := 228) (ls' := [none, none, none, none, some (.int x4), none, some (.int x6), some (.int x7), some (.ref 1), none, none, none, some (.int (0 : Int32)), some (.long x13), none, some (.long x15), none, some (.long (x17 + x13)), none, some (.long x19), none, some (.int (x21 + (1 : Int32))), some (.int x22), some (.int x23), some (.int v29), none, none, none, none, none, none, none, none]) (st' := []) rfl ?_
          first | exact hm36 _ (by simp only [if_neg hc38, if_neg hc41, if_neg hc42]) _ (by simp only [if_neg hc38, if_neg hc41, if_neg hc42]) _ (by simp only [if_neg hc38, if_neg hc41, if_neg hc42]) _ (by simp only [if_neg hc38, if_neg hc41, if_neg hc42]) _ (by simp only [if_neg hc38, if_neg hc41, if_neg hc42]) | exact wpl_lle (by repeat (first | exact trivial | refine ⟨rfl, ?_⟩)) (hm36 _ (by simp only [if_neg hc38, if_neg hc41, if_neg hc42]) _ (by simp only [if_neg hc38, if_neg hc41, if_neg hc42]) _ (by simp only [if_neg hc38, if_neg hc41, if_neg hc42]) _ (by simp only [if_neg hc38, if_neg hc41, if_neg hc42]) _ (by simp only [if_neg hc38, if_neg hc41, if_neg hc42]))
  · have h27 := h.2 hc25
    refine wpl_sl (n := 3) (pc' := 238) (ls' := [none, none, none, none, some (.int x4), none, some (.int x6), some (.int x7), some (.ref 1), none, none, none, some (.int x12), some (.long x13), none, some (.long x15), none, some (.long x17), none, some (.long x19), none, some (.int x21), some (.int x22), some (.int x23), none, none, none, none, none, none, none, none, none]) (st' := [.int (4 : Int32), .int (0 : Int32), .ref 1]) rfl ?_
    refine wpl_v1 (m' := 10) (me' := cm10) (as := [.int (0 : Int32), .int (4 : Int32)]) (r := []) rfl rfl rfl rfl rfl ⟨by decide, (by first | decide | exact Nat.le_of_ble_eq_true rfl), (by first | decide | exact Nat.le_of_ble_eq_true rfl), rfl⟩ (cal_I (calI.mono h27 fun v44 s43 h45 => ?_))
    refine wpl_sl (n := 4) (pc' := 247) (ls' := [none, none, none, none, some (.int x4), none, some (.int x6), some (.int x7), some (.ref 1), none, none, none, some (.int x12), some (.long x13), none, some (.long x15), none, some (.long x17), none, some (.long x19), none, some (.int x21), some (.int x22), some (.int v44), none, none, none, none, none, none, none, none, none]) (st' := [.int (4 : Int32), .int (1 : Int32), .ref 1]) rfl ?_
    refine wpl_v1 (m' := 10) (me' := cm10) (as := [.int (1 : Int32), .int (4 : Int32)]) (r := []) rfl rfl rfl rfl rfl ⟨by decide, (by first | decide | exact Nat.le_of_ble_eq_true rfl), (by first | decide | exact Nat.le_of_ble_eq_true rfl), rfl⟩ (cal_I (calI.mono h45 fun v47 s46 h48 => ?_))
    refine wpl_sl (n := 4) (pc' := 257) (ls' := [none, none, none, none, some (.int x4), none, some (.int x6), some (.int x7), some (.ref 1), none, none, none, some (.int x12), some (.long x13), none, some (.long x15), none, some (.long x17), none, some (.long x19), none, some (.int x21), some (.int x22), some (.int v44), some (.int v47), none, none, none, none, none, none, none, none]) (st' := [.int (8 : Int32), .int (0 : Int32), .ref 1]) rfl ?_
    refine wpl_v1 (m' := 10) (me' := cm10) (as := [.int (0 : Int32), .int (8 : Int32)]) (r := []) rfl rfl rfl rfl rfl ⟨by decide, (by first | decide | exact Nat.le_of_ble_eq_true rfl), (by first | decide | exact Nat.le_of_ble_eq_true rfl), rfl⟩ (cal_I (calI.mono h48 fun v50 s49 h51 => ?_))
    refine wpl_sl (n := 4) (pc' := 267) (ls' := [none, none, none, none, some (.int x4), none, some (.int x6), some (.int x7), some (.ref 1), none, none, none, some (.int x12), some (.long x13), none, some (.long x15), none, some (.long x17), none, some (.long x19), none, some (.int x21), some (.int x22), some (.int v44), some (.int v47), some (.int v50), none, none, none, none, none, none, none]) (st' := [.int (8 : Int32), .int (1 : Int32), .ref 1]) rfl ?_
    refine wpl_v1 (m' := 10) (me' := cm10) (as := [.int (1 : Int32), .int (8 : Int32)]) (r := []) rfl rfl rfl rfl rfl ⟨by decide, (by first | decide | exact Nat.le_of_ble_eq_true rfl), (by first | decide | exact Nat.le_of_ble_eq_true rfl), rfl⟩ (cal_I (calI.mono h51 fun v53 s52 h54 => ?_))
    refine wpl_sl (n := 4) (pc' := 277) (ls' := [none, none, none, none, some (.int x4), none, some (.int x6), some (.int x7), some (.ref 1), none, none, none, some (.int x12), some (.long x13), none, some (.long x15), none, some (.long x17), none, some (.long x19), none, some (.int x21), some (.int x22), some (.int v44), some (.int v47), some (.int v50), some (.int v53), none, none, none, none, none, none]) (st' := [.int (6 : Int32), .int (0 : Int32), .ref 1]) rfl ?_
    refine wpl_v1 (m' := 10) (me' := cm10) (as := [.int (0 : Int32), .int (6 : Int32)]) (r := []) rfl rfl rfl rfl rfl ⟨by decide, (by first | decide | exact Nat.le_of_ble_eq_true rfl), (by first | decide | exact Nat.le_of_ble_eq_true rfl), rfl⟩ (cal_I (calI.mono h54 fun v56 s55 h57 => ?_))
    refine wpl_sl (n := 1) (pc' := 282) (ls' := [none, none, none, none, some (.int x4), none, some (.int x6), some (.int x7), some (.ref 1), none, none, none, some (.int x12), some (.long x13), none, some (.long x15), none, some (.long x17), none, some (.long x19), none, some (.int x21), some (.int x22), some (.int v44), some (.int v47), some (.int v50), some (.int v53), some (.int v56), none, none, none, none, none]) (st' := []) rfl ?_
    exact wpl_lle (ls := [none, none, none, none, some (.int x4), none, some (.int x6), none, some (.ref 1), none, none, none, some (.int x12), none, none, none, none, some (.long x17), none, some (.long x19), none, some (.int x21), some (.int x22), some (.int v44), some (.int v47), some (.int v50), some (.int v53), some (.int v56), none, none, none, none, none]) ⟨rfl, rfl, rfl, rfl, rfl, rfl, rfl, rfl, rfl, rfl, rfl, rfl, rfl, trivial⟩ h57
theorem l0_282 (x4 : Int32) (x6 : Int32) (x12 : Int32) (x17 : Int64) (x19 : Int64) (x21 : Int32) (x22 : Int32) (x23 : Int32) (x24 : Int32) (x25 : Int32) (x26 : Int32) (x27 : Int32)  (Q : Int32 → Wd → Prop) (h : calI PP 10 21 [.ref 0, .int (1 : Int32), .int (6 : Int32)] s (fun v59 s58 => calI PP 12 21 [.ref 0, .int (4 : Int32)] s58 (fun v62 s61 => calI PP 12 21 [.ref 0, .int (0 : Int32)] s61 (fun v65 s64 => calI PP 11 21 [.ref 0, .int (0 : Int32), .int (2 : Int32)] s64 (fun v68 s67 => calI PP 11 21 [.ref 0, .int (1 : Int32), .int (3 : Int32)] s67 (fun v71 s70 => ((x12 = (0 : Int32)) → Q (0 : Int32) (W1 s70)) ∧ (¬ (x12 = (0 : Int32)) → ((x23 = x4) → ((x24 = x6) → ((x25 = x21) → ((x26 = x22) → (((XT.cmpL (Int32.toInt64 x27) x17) = (0 : Int32)) → (((XT.cmpL (Int32.toInt64 v59) x19) = (0 : Int32)) → ((v62 = (8 : Int32)) → ((v65 = (2 : Int32)) → ((v68 = (x4 + x6)) → ((v71 = x6) → Q (1 : Int32) (W1 s70)) ∧ (¬ (v71 = x6) → Q (0 : Int32) (W1 s70))) ∧ (¬ (v68 = (x4 + x6)) → Q (0 : Int32) (W1 s70))) ∧ (¬ (v65 = (2 : Int32)) → Q (0 : Int32) (W1 s70))) ∧ (¬ (v62 = (8 : Int32)) → Q (0 : Int32) (W1 s70))) ∧ (¬ ((XT.cmpL (Int32.toInt64 v59) x19) = (0 : Int32)) → Q (0 : Int32) (W1 s70))) ∧ (¬ ((XT.cmpL (Int32.toInt64 x27) x17) = (0 : Int32)) → Q (0 : Int32) (W1 s70))) ∧ (¬ (x26 = x22) → Q (0 : Int32) (W1 s70))) ∧ (¬ (x25 = x21) → Q (0 : Int32) (W1 s70))) ∧ (¬ (x24 = x6) → Q (0 : Int32) (W1 s70))) ∧ (¬ (x23 = x4) → Q (0 : Int32) (W1 s70))))))))) : wplI PP QQ none 0 lm0 282 [none, none, none, none, some (.int x4), none, some (.int x6), none, some (.ref 1), none, none, none, some (.int x12), none, none, none, none, some (.long x17), none, some (.long x19), none, some (.int x21), some (.int x22), some (.int x23), some (.int x24), some (.int x25), some (.int x26), some (.int x27), none, none, none, none, none] [] (W1 s) Q := by
  refine wpl_sl (n := 3) (pc' := 287) (ls' := [none, none, none, none, some (.int x4), none, some (.int x6), none, some (.ref 1), none, none, none, some (.int x12), none, none, none, none, some (.long x17), none, some (.long x19), none, some (.int x21), some (.int x22), some (.int x23), some (.int x24), some (.int x25), some (.int x26), some (.int x27), none, none, none, none, none]) (st' := [.int (6 : Int32), .int (1 : Int32), .ref 1]) rfl ?_
  refine wpl_v1 (m' := 10) (me' := cm10) (as := [.int (1 : Int32), .int (6 : Int32)]) (r := []) rfl rfl rfl rfl rfl ⟨by decide, (by first | decide | exact Nat.le_of_ble_eq_true rfl), (by first | decide | exact Nat.le_of_ble_eq_true rfl), rfl⟩ (cal_I (calI.mono h fun v59 s58 h60 => ?_))
  refine wpl_sl (n := 3) (pc' := 295) (ls' := [none, none, none, none, some (.int x4), none, some (.int x6), none, some (.ref 1), none, none, none, some (.int x12), none, none, none, none, some (.long x17), none, some (.long x19), none, some (.int x21), some (.int x22), some (.int x23), some (.int x24), some (.int x25), some (.int x26), some (.int x27), some (.int v59), none, none, none, none]) (st' := [.int (4 : Int32), .ref 1]) rfl ?_
  refine wpl_v1 (m' := 12) (me' := cm12) (as := [.int (4 : Int32)]) (r := []) rfl rfl rfl rfl rfl ⟨by decide, (by first | decide | exact Nat.le_of_ble_eq_true rfl), (by first | decide | exact Nat.le_of_ble_eq_true rfl), rfl⟩ (cal_I (calI.mono h60 fun v62 s61 h63 => ?_))
  refine wpl_sl (n := 3) (pc' := 303) (ls' := [none, none, none, none, some (.int x4), none, some (.int x6), none, some (.ref 1), none, none, none, some (.int x12), none, none, none, none, some (.long x17), none, some (.long x19), none, some (.int x21), some (.int x22), some (.int x23), some (.int x24), some (.int x25), some (.int x26), some (.int x27), some (.int v59), some (.int v62), none, none, none]) (st' := [.int (0 : Int32), .ref 1]) rfl ?_
  refine wpl_v1 (m' := 12) (me' := cm12) (as := [.int (0 : Int32)]) (r := []) rfl rfl rfl rfl rfl ⟨by decide, (by first | decide | exact Nat.le_of_ble_eq_true rfl), (by first | decide | exact Nat.le_of_ble_eq_true rfl), rfl⟩ (cal_I (calI.mono h63 fun v65 s64 h66 => ?_))
  refine wpl_sl (n := 4) (pc' := 312) (ls' := [none, none, none, none, some (.int x4), none, some (.int x6), none, some (.ref 1), none, none, none, some (.int x12), none, none, none, none, some (.long x17), none, some (.long x19), none, some (.int x21), some (.int x22), some (.int x23), some (.int x24), some (.int x25), some (.int x26), some (.int x27), some (.int v59), some (.int v62), some (.int v65), none, none]) (st' := [.int (2 : Int32), .int (0 : Int32), .ref 1]) rfl ?_
  refine wpl_v1 (m' := 11) (me' := cm11) (as := [.int (0 : Int32), .int (2 : Int32)]) (r := []) rfl rfl rfl rfl rfl ⟨by decide, (by first | decide | exact Nat.le_of_ble_eq_true rfl), (by first | decide | exact Nat.le_of_ble_eq_true rfl), rfl⟩ (cal_I (calI.mono h66 fun v68 s67 h69 => ?_))
  refine wpl_sl (n := 4) (pc' := 321) (ls' := [none, none, none, none, some (.int x4), none, some (.int x6), none, some (.ref 1), none, none, none, some (.int x12), none, none, none, none, some (.long x17), none, some (.long x19), none, some (.int x21), some (.int x22), some (.int x23), some (.int x24), some (.int x25), some (.int x26), some (.int x27), some (.int v59), some (.int v62), some (.int v65), some (.int v68), none]) (st' := [.int (3 : Int32), .int (1 : Int32), .ref 1]) rfl ?_
  refine wpl_v1 (m' := 11) (me' := cm11) (as := [.int (1 : Int32), .int (3 : Int32)]) (r := []) rfl rfl rfl rfl rfl ⟨by decide, (by first | decide | exact Nat.le_of_ble_eq_true rfl), (by first | decide | exact Nat.le_of_ble_eq_true rfl), rfl⟩ (cal_I (calI.mono h69 fun v71 s70 h72 => ?_))
  refine wpl_sl (n := 2) (pc' := 328) (ls' := [none, none, none, none, some (.int x4), none, some (.int x6), none, some (.ref 1), none, none, none, some (.int x12), none, none, none, none, some (.long x17), none, some (.long x19), none, some (.int x21), some (.int x22), some (.int x23), some (.int x24), some (.int x25), some (.int x26), some (.int x27), some (.int v59), some (.int v62), some (.int v65), some (.int v68), some (.int v71)]) (st' := [.int x12]) rfl ?_
  refine wpl_if (a := 411) (b := 331) rfl (by decide) rfl rfl (wpl_br (p := x12 = (0 : Int32)) ⟨fun hc73 => ?_, fun hc73 => ?_⟩)
  · have h74 := h72.1 hc73
    refine wpl_sl (n := 1) (pc' := 412) (ls' := [none, none, none, none, some (.int x4), none, some (.int x6), none, some (.ref 1), none, none, none, some (.int x12), none, none, none, none, some (.long x17), none, some (.long x19), none, some (.int x21), some (.int x22), some (.int x23), some (.int x24), some (.int x25), some (.int x26), some (.int x27), some (.int v59), some (.int v62), some (.int v65), some (.int v68), some (.int v71)]) (st' := [.int (0 : Int32)]) rfl ?_
    exact wpl_ret rfl rfl rfl ⟨(0 : Int32), rfl, h74⟩
  · have h75 := h72.2 hc73
    refine wpl_sl (n := 2) (pc' := 335) (ls' := [none, none, none, none, some (.int x4), none, some (.int x6), none, some (.ref 1), none, none, none, some (.int x12), none, none, none, none, some (.long x17), none, some (.long x19), none, some (.int x21), some (.int x22), some (.int x23), some (.int x24), some (.int x25), some (.int x26), some (.int x27), some (.int v59), some (.int v62), some (.int v65), some (.int v68), some (.int v71)]) (st' := [.int x4, .int x23]) rfl ?_
    refine wpl_icmp (a := 411) (b := 338) rfl (by decide) rfl rfl (wpl_br (p := x23 = x4) ⟨fun hc76 => ?_, fun hc76 => ?_⟩)
    · have h77 := h75.1 hc76
      refine wpl_sl (n := 2) (pc' := 342) (ls' := [none, none, none, none, some (.int x4), none, some (.int x6), none, some (.ref 1), none, none, none, some (.int x12), none, none, none, none, some (.long x17), none, some (.long x19), none, some (.int x21), some (.int x22), some (.int x23), some (.int x24), some (.int x25), some (.int x26), some (.int x27), some (.int v59), some (.int v62), some (.int v65), some (.int v68), some (.int v71)]) (st' := [.int x6, .int x24]) rfl ?_
      refine wpl_icmp (a := 411) (b := 345) rfl (by decide) rfl rfl (wpl_br (p := x24 = x6) ⟨fun hc79 => ?_, fun hc79 => ?_⟩)
      · have h80 := h77.1 hc79
        refine wpl_sl (n := 2) (pc' := 349) (ls' := [none, none, none, none, some (.int x4), none, some (.int x6), none, some (.ref 1), none, none, none, some (.int x12), none, none, none, none, some (.long x17), none, some (.long x19), none, some (.int x21), some (.int x22), some (.int x23), some (.int x24), some (.int x25), some (.int x26), some (.int x27), some (.int v59), some (.int v62), some (.int v65), some (.int v68), some (.int v71)]) (st' := [.int x21, .int x25]) rfl ?_
        refine wpl_icmp (a := 411) (b := 352) rfl (by decide) rfl rfl (wpl_br (p := x25 = x21) ⟨fun hc82 => ?_, fun hc82 => ?_⟩)
        · have h83 := h80.1 hc82
          refine wpl_sl (n := 2) (pc' := 356) (ls' := [none, none, none, none, some (.int x4), none, some (.int x6), none, some (.ref 1), none, none, none, some (.int x12), none, none, none, none, some (.long x17), none, some (.long x19), none, some (.int x21), some (.int x22), some (.int x23), some (.int x24), some (.int x25), some (.int x26), some (.int x27), some (.int v59), some (.int v62), some (.int v65), some (.int v68), some (.int v71)]) (st' := [.int x22, .int x26]) rfl ?_
          refine wpl_icmp (a := 411) (b := 359) rfl (by decide) rfl rfl (wpl_br (p := x26 = x22) ⟨fun hc85 => ?_, fun hc85 => ?_⟩)
          · have h86 := h83.1 hc85
            refine wpl_sl (n := 4) (pc' := 365) (ls' := [none, none, none, none, some (.int x4), none, some (.int x6), none, some (.ref 1), none, none, none, some (.int x12), none, none, none, none, some (.long x17), none, some (.long x19), none, some (.int x21), some (.int x22), some (.int x23), some (.int x24), some (.int x25), some (.int x26), some (.int x27), some (.int v59), some (.int v62), some (.int v65), some (.int v68), some (.int v71)]) (st' := [.int (XT.cmpL (Int32.toInt64 x27) x17)]) rfl ?_
            refine wpl_if (a := 411) (b := 368) rfl (by decide) rfl rfl (wpl_br (p := (XT.cmpL (Int32.toInt64 x27) x17) = (0 : Int32)) ⟨fun hc88 => ?_, fun hc88 => ?_⟩)
            · have h89 := h86.1 hc88
              refine wpl_sl (n := 4) (pc' := 374) (ls' := [none, none, none, none, some (.int x4), none, some (.int x6), none, some (.ref 1), none, none, none, some (.int x12), none, none, none, none, some (.long x17), none, some (.long x19), none, some (.int x21), some (.int x22), some (.int x23), some (.int x24), some (.int x25), some (.int x26), some (.int x27), some (.int v59), some (.int v62), some (.int v65), some (.int v68), some (.int v71)]) (st' := [.int (XT.cmpL (Int32.toInt64 v59) x19)]) rfl ?_
              refine wpl_if (a := 411) (b := 377) rfl (by decide) rfl rfl (wpl_br (p := (XT.cmpL (Int32.toInt64 v59) x19) = (0 : Int32)) ⟨fun hc91 => ?_, fun hc91 => ?_⟩)
              · have h92 := h89.1 hc91
                refine wpl_sl (n := 2) (pc' := 381) (ls' := [none, none, none, none, some (.int x4), none, some (.int x6), none, some (.ref 1), none, none, none, some (.int x12), none, none, none, none, some (.long x17), none, some (.long x19), none, some (.int x21), some (.int x22), some (.int x23), some (.int x24), some (.int x25), some (.int x26), some (.int x27), some (.int v59), some (.int v62), some (.int v65), some (.int v68), some (.int v71)]) (st' := [.int (8 : Int32), .int v62]) rfl ?_
                refine wpl_icmp (a := 411) (b := 384) rfl (by decide) rfl rfl (wpl_br (p := v62 = (8 : Int32)) ⟨fun hc94 => ?_, fun hc94 => ?_⟩)
                · have h95 := h92.1 hc94
                  refine wpl_sl (n := 2) (pc' := 387) (ls' := [none, none, none, none, some (.int x4), none, some (.int x6), none, some (.ref 1), none, none, none, some (.int x12), none, none, none, none, some (.long x17), none, some (.long x19), none, some (.int x21), some (.int x22), some (.int x23), some (.int x24), some (.int x25), some (.int x26), some (.int x27), some (.int v59), some (.int v62), some (.int v65), some (.int v68), some (.int v71)]) (st' := [.int (2 : Int32), .int v65]) rfl ?_
                  refine wpl_icmp (a := 411) (b := 390) rfl (by decide) rfl rfl (wpl_br (p := v65 = (2 : Int32)) ⟨fun hc97 => ?_, fun hc97 => ?_⟩)
                  · have h98 := h95.1 hc97
                    refine wpl_sl (n := 4) (pc' := 397) (ls' := [none, none, none, none, some (.int x4), none, some (.int x6), none, some (.ref 1), none, none, none, some (.int x12), none, none, none, none, some (.long x17), none, some (.long x19), none, some (.int x21), some (.int x22), some (.int x23), some (.int x24), some (.int x25), some (.int x26), some (.int x27), some (.int v59), some (.int v62), some (.int v65), some (.int v68), some (.int v71)]) (st' := [.int (x4 + x6), .int v68]) rfl ?_
                    refine wpl_icmp (a := 411) (b := 400) rfl (by decide) rfl rfl (wpl_br (p := v68 = (x4 + x6)) ⟨fun hc100 => ?_, fun hc100 => ?_⟩)
                    · have h101 := h98.1 hc100
                      refine wpl_sl (n := 2) (pc' := 404) (ls' := [none, none, none, none, some (.int x4), none, some (.int x6), none, some (.ref 1), none, none, none, some (.int x12), none, none, none, none, some (.long x17), none, some (.long x19), none, some (.int x21), some (.int x22), some (.int x23), some (.int x24), some (.int x25), some (.int x26), some (.int x27), some (.int v59), some (.int v62), some (.int v65), some (.int v68), some (.int v71)]) (st' := [.int x6, .int v71]) rfl ?_
                      refine wpl_icmp (a := 411) (b := 407) rfl (by decide) rfl rfl (wpl_br (p := v71 = x6) ⟨fun hc103 => ?_, fun hc103 => ?_⟩)
                      · have h104 := h101.1 hc103
                        refine wpl_sl (n := 2) (pc' := 412) (ls' := [none, none, none, none, some (.int x4), none, some (.int x6), none, some (.ref 1), none, none, none, some (.int x12), none, none, none, none, some (.long x17), none, some (.long x19), none, some (.int x21), some (.int x22), some (.int x23), some (.int x24), some (.int x25), some (.int x26), some (.int x27), some (.int v59), some (.int v62), some (.int v65), some (.int v68), some (.int v71)]) (st' := [.int (1 : Int32)]) rfl ?_
                        exact wpl_ret rfl rfl rfl ⟨(1 : Int32), rfl, h104⟩
                      · have h105 := h101.2 hc103
                        refine wpl_sl (n := 1) (pc' := 412) (ls' := [none, none, none, none, some (.int x4), none, some (.int x6), none, some (.ref 1), none, none, none, some (.int x12), none, none, none, none, some (.long x17), none, some (.long x19), none, some (.int x21), some (.int x22), some (.int x23), some (.int x24), some (.int x25), some (.int x26), some (.int x27), some (.int v59), some (.int v62), some (.int v65), some (.int v68), some (.int v71)]) (st' := [.int (0 : Int32)]) rfl ?_
                        exact wpl_ret rfl rfl rfl ⟨(0 : Int32), rfl, h105⟩
                    · have h102 := h98.2 hc100
                      refine wpl_sl (n := 1) (pc' := 412) (ls' := [none, none, none, none, some (.int x4), none, some (.int x6), none, some (.ref 1), none, none, none, some (.int x12), none, none, none, none, some (.long x17), none, some (.long x19), none, some (.int x21), some (.int x22), some (.int x23), some (.int x24), some (.int x25), some (.int x26), some (.int x27), some (.int v59), some (.int v62), some (.int v65), some (.int v68), some (.int v71)]) (st' := [.int (0 : Int32)]) rfl ?_
                      exact wpl_ret rfl rfl rfl ⟨(0 : Int32), rfl, h102⟩
                  · have h99 := h95.2 hc97
                    refine wpl_sl (n := 1) (pc' := 412) (ls' := [none, none, none, none, some (.int x4), none, some (.int x6), none, some (.ref 1), none, none, none, some (.int x12), none, none, none, none, some (.long x17), none, some (.long x19), none, some (.int x21), some (.int x22), some (.int x23), some (.int x24), some (.int x25), some (.int x26), some (.int x27), some (.int v59), some (.int v62), some (.int v65), some (.int v68), some (.int v71)]) (st' := [.int (0 : Int32)]) rfl ?_
                    exact wpl_ret rfl rfl rfl ⟨(0 : Int32), rfl, h99⟩
                · have h96 := h92.2 hc94
                  refine wpl_sl (n := 1) (pc' := 412) (ls' := [none, none, none, none, some (.int x4), none, some (.int x6), none, some (.ref 1), none, none, none, some (.int x12), none, none, none, none, some (.long x17), none, some (.long x19), none, some (.int x21), some (.int x22), some (.int x23), some (.int x24), some (.int x25), some (.int x26), some (.int x27), some (.int v59), some (.int v62), some (.int v65), some (.int v68), some (.int v71)]) (st' := [.int (0 : Int32)]) rfl ?_
                  exact wpl_ret rfl rfl rfl ⟨(0 : Int32), rfl, h96⟩
              · have h93 := h89.2 hc91
                refine wpl_sl (n := 1) (pc' := 412) (ls' := [none, none, none, none, some (.int x4), none, some (.int x6), none, some (.ref 1), none, none, none, some (.int x12), none, none, none, none, some (.long x17), none, some (.long x19), none, some (.int x21), some (.int x22), some (.int x23), some (.int x24), some (.int x25), some (.int x26), some (.int x27), some (.int v59), some (.int v62), some (.int v65), some (.int v68), some (.int v71)]) (st' := [.int (0 : Int32)]) rfl ?_
                exact wpl_ret rfl rfl rfl ⟨(0 : Int32), rfl, h93⟩
            · have h90 := h86.2 hc88
              refine wpl_sl (n := 1) (pc' := 412) (ls' := [none, none, none, none, some (.int x4), none, some (.int x6), none, some (.ref 1), none, none, none, some (.int x12), none, none, none, none, some (.long x17), none, some (.long x19), none, some (.int x21), some (.int x22), some (.int x23), some (.int x24), some (.int x25), some (.int x26), some (.int x27), some (.int v59), some (.int v62), some (.int v65), some (.int v68), some (.int v71)]) (st' := [.int (0 : Int32)]) rfl ?_
              exact wpl_ret rfl rfl rfl ⟨(0 : Int32), rfl, h90⟩
          · have h87 := h83.2 hc85
            refine wpl_sl (n := 1) (pc' := 412) (ls' := [none, none, none, none, some (.int x4), none, some (.int x6), none, some (.ref 1), none, none, none, some (.int x12), none, none, none, none, some (.long x17), none, some (.long x19), none, some (.int x21), some (.int x22), some (.int x23), some (.int x24), some (.int x25), some (.int x26), some (.int x27), some (.int v59), some (.int v62), some (.int v65), some (.int v68), some (.int v71)]) (st' := [.int (0 : Int32)]) rfl ?_
            exact wpl_ret rfl rfl rfl ⟨(0 : Int32), rfl, h87⟩
        · have h84 := h80.2 hc82
          refine wpl_sl (n := 1) (pc' := 412) (ls' := [none, none, none, none, some (.int x4), none, some (.int x6), none, some (.ref 1), none, none, none, some (.int x12), none, none, none, none, some (.long x17), none, some (.long x19), none, some (.int x21), some (.int x22), some (.int x23), some (.int x24), some (.int x25), some (.int x26), some (.int x27), some (.int v59), some (.int v62), some (.int v65), some (.int v68), some (.int v71)]) (st' := [.int (0 : Int32)]) rfl ?_
          exact wpl_ret rfl rfl rfl ⟨(0 : Int32), rfl, h84⟩
      · have h81 := h77.2 hc79
        refine wpl_sl (n := 1) (pc' := 412) (ls' := [none, none, none, none, some (.int x4), none, some (.int x6), none, some (.ref 1), none, none, none, some (.int x12), none, none, none, none, some (.long x17), none, some (.long x19), none, some (.int x21), some (.int x22), some (.int x23), some (.int x24), some (.int x25), some (.int x26), some (.int x27), some (.int v59), some (.int v62), some (.int v65), some (.int v68), some (.int v71)]) (st' := [.int (0 : Int32)]) rfl ?_
        exact wpl_ret rfl rfl rfl ⟨(0 : Int32), rfl, h81⟩
    · have h78 := h75.2 hc76
      refine wpl_sl (n := 1) (pc' := 412) (ls' := [none, none, none, none, some (.int x4), none, some (.int x6), none, some (.ref 1), none, none, none, some (.int x12), none, none, none, none, some (.long x17), none, some (.long x19), none, some (.int x21), some (.int x22), some (.int x23), some (.int x24), some (.int x25), some (.int x26), some (.int x27), some (.int v59), some (.int v62), some (.int v65), some (.int v68), some (.int v71)]) (st' := [.int (0 : Int32)]) rfl ?_
      exact wpl_ret rfl rfl rfl ⟨(0 : Int32), rfl, h78⟩
/-! refresh of the stride scheduler -/
theorem own_of {j n : Nat} (h : j < n) (hn : n < 2147483648) : ∃ i : Int32, 0 ≤ i.toInt ∧ i.toInt < n ∧ ix i = j := by
  have e : (Int32.ofNat j).toInt = j := Int32.toInt_ofNat_of_lt (by omega)
  exact ⟨Int32.ofNat j, by omega, by omega, by have := ix_int (i := Int32.ofNat j) (by omega); omega⟩
def own_hw (s : St) : Nat → Int32 → Int32
  | 0, x => x
  | k + 1, x => if gI s 5 (ix x) = 2 then (if gI s 8 (ix x) < 0 then x else if gI s 8 (ix x) < gI s 0 41 then (if gI s 8 (ix x) < 16 then own_hw s k (gI s 8 (ix x)) else x) else x) else x
theorem own_hw_rng (s : St) : ∀ n x, inb 16 x → inb 16 (own_hw s n x)
  | 0, x, h => h
  | n + 1, x, h => by
    unfold own_hw
    split
    · split
      · exact h
      · rename_i a
        split
        · split
          · rename_i b
            exact own_hw_rng s n _ ⟨by rw [i32_lt] at a; simp at a; omega, by rw [i32_lt] at b; simpa using b⟩
          · exact h
        · exact h
    · exact h
theorem own_20 (s : St) (Q : Int32 → St → Prop) : ∀ (n : Nat) (x k : Int32), inb 16 x → 0 ≤ k.toInt → k.toInt + n = 16 → Q (own_hw s n x) s → wpcI PP 20 cm20 21 4 [some (.ref 0), none, some (.int x), some (.int k), none] [] s Q
  | 0, x, k, hx, h0, hk, h => c20_4 _ _ _ _ ⟨fun q => absurd q (by rw [i32_lt]; simp; omega), fun _ => h⟩
  | n + 1, x, k, hx, h0, hk, h => by
    have e : (k + 1).toInt = k.toInt + 1 := i32_add (by simp; omega) (by simp; omega)
    unfold own_hw at h
    refine c20_4 _ _ _ _ ⟨fun _ => ⟨hx, fun a => ⟨hx, fun b => ?_, fun b => ⟨fun c => ⟨fun d => ?_, fun d => ?_⟩, fun c => ?_⟩⟩, fun a => ?_⟩, fun q => absurd (by rw [i32_lt]; simp; omega) q⟩
    · rw [if_pos a, if_pos b] at h; exact h
    · rw [if_pos a, if_neg b, if_pos c, if_pos d] at h
      exact own_20 s Q n _ _ ⟨by rw [i32_lt] at b; simp at b; omega, by rw [i32_lt] at d; simpa using d⟩ (by omega) (by omega) h
    · rw [if_pos a, if_neg b, if_pos c, if_neg d] at h; exact h
    · rw [if_pos a, if_neg b, if_neg c] at h; exact h
    · rw [if_neg a] at h; exact h
def own_Ho (s : St) (i : Int32) : Int32 := if i < gI s 0 41 then own_hw s 16 i else i
def own_A (s : St) (i : Int32) : Int32 := if i < gI s 0 41 then (if gI s 5 (ix i) = 3 then 0 else if gI s 5 (ix (own_hw s 16 i)) = 1 then 1 else 0) else 0
/-- t stands as s does but for the cells of the derived arrays -/
def own_fr (D : Nat → Prop) (s t : St) : Prop := (∀ c i, ¬ D c → gI t c i = gI s c i) ∧ (∀ c i, ¬ D c → gL t c i = gL s c i)
theorem own_fr_rfl (D : Nat → Prop) (s : St) : own_fr D s s := ⟨fun _ _ _ => rfl, fun _ _ _ => rfl⟩
theorem own_fr_sI {D : Nat → Prop} {s t : St} {c i : Nat} {v : Int32} (hc : D c) (h : own_fr D s t) : own_fr D s (sI t c i v) :=
  ⟨fun c' j hd => by rw [gI_sI, if_neg (fun (q : c' = c ∧ j = i) => hd (q.1 ▸ hc))]; exact h.1 c' j hd, fun c' j hd => by rw [gL_sI]; exact h.2 c' j hd⟩
theorem own_fr_sL {D : Nat → Prop} {s t : St} {c i : Nat} {v : Int64} (hc : D c) (h : own_fr D s t) : own_fr D s (sL t c i v) :=
  ⟨fun c' j hd => by rw [gI_sL]; exact h.1 c' j hd, fun c' j hd => by rw [gL_sL, if_neg (fun (q : c' = c ∧ j = i) => hd (q.1 ▸ hc))]; exact h.2 c' j hd⟩
theorem own_hw_fr {D : Nat → Prop} {s t : St} (h : own_fr D s t) (h0 : ¬ D 0) (h5 : ¬ D 5) (h8 : ¬ D 8) : ∀ n x, own_hw t n x = own_hw s n x
  | 0, x => rfl
  | n + 1, x => by simp only [own_hw, h.1 5 _ h5, h.1 8 _ h8, h.1 0 _ h0, own_hw_fr h h0 h5 h8 n]
theorem own_Ho_fr {D : Nat → Prop} {s t : St} (h : own_fr D s t) (h0 : ¬ D 0) (h5 : ¬ D 5) (h8 : ¬ D 8) (i : Int32) : own_Ho t i = own_Ho s i := by simp only [own_Ho, h.1 0 _ h0, own_hw_fr h h0 h5 h8]
theorem own_A_fr {D : Nat → Prop} {s t : St} (h : own_fr D s t) (h0 : ¬ D 0) (h5 : ¬ D 5) (h8 : ¬ D 8) (i : Int32) : own_A t i = own_A s i := by simp only [own_A, h.1 0 _ h0, h.1 5 _ h5, own_hw_fr h h0 h5 h8]
/-- computeHolders -/
theorem own_21 (s : St) (Q : St → Prop) (h : ∀ t, own_fr (fun c => c = 16 ∨ c = 17) s t → (∀ i, inb 16 i → gI t 16 (ix i) = own_Ho s i ∧ gI t 17 (ix i) = own_A s i) → Q t) : calV PP 21 21 [.ref 0] s Q := by
  apply c21_in
  refine loop_up (F := fun i => ∀ u, own_fr (fun c => c = 16 ∨ c = 17) s u → (∀ k : Int32, 0 ≤ k.toInt → k.toInt < i.toInt → gI u 16 (ix k) = own_Ho s k ∧ gI u 17 (ix k) = own_A s k) → wpcV PP 21 cm21 21 2 [some (.ref 0), some (.int i), none] [] u Q) 16 (by decide) (fun i h0 h1 e ih u hu hk => ?_) (fun i hi u hu hk => ?_) 0 (by decide) (by decide) s (own_fr_rfl _ s) (fun k a b => absurd b (by simp; omega))
  · have ib : inb 16 i := ⟨h0, h1⟩
    have next : ∀ a b, a = own_Ho s i → b = own_A s i → wpcV PP 21 cm21 21 77 [some (.ref 0), some (.int i), none] [] (sI (sI u 16 (ix i) a) 17 (ix i) b) Q := by
      intro a b ea eb
      refine c21_77 _ _ _ (ih _ (own_fr_sI (Or.inr rfl) (own_fr_sI (Or.inl rfl) hu)) fun k k0 k1 => ?_)
      by_cases q : k = i
      · subst q; simp [gI_sI, ea, eb]
      · have ne : ix k ≠ ix i := fun z => q ((ix_inj k0 h0).mp z)
        simp [gI_sI, ne]; exact hk k k0 (by rw [i32_eq] at q; omega)
    have c0 := hu.1 0 41 (by decide)
    have c5 := fun j => hu.1 5 j (by decide)
    have hw := own_hw_fr hu (by decide) (by decide) (by decide)
    refine c21_2 _ _ _ ⟨fun _ => ⟨fun a => ?_, fun a => ⟨ib, ib, ?_⟩⟩, fun q => absurd (by rw [i32_lt]; exact h1) q⟩
    · rw [c0] at a
      apply c20_in
      refine own_20 u _ 16 i 0 ib (by decide) (by decide) ⟨ib, ib, fun b => ⟨ib, ?_⟩, fun b => ⟨own_hw_rng u 16 i ib, fun m em => ⟨ib, ?_⟩⟩⟩
      · rw [c5] at b
        exact next _ _ (by rw [own_Ho, if_pos a, hw]) (by rw [own_A, if_pos a, if_pos b])
      · rw [c5] at b
        rw [c5, hw] at em
        refine next _ _ (by rw [own_Ho, if_pos a, hw]) ?_
        rw [own_A, if_pos a, if_neg b, em]
        split <;> decide
    · rw [c0] at a
      exact next _ _ (by rw [own_Ho, if_neg a]) (by rw [own_A, if_neg a])
  · exact c21_2 _ _ _ ⟨fun q => absurd q (by rw [i32_lt, hi]; decide), fun _ => h u hu fun k kb => hk k kb.1 (by have := kb.2; omega)⟩
/-- a loop that counts down to -1 -/
theorem own_down {F : Int32 → Prop} (step : ∀ i, 0 ≤ i.toInt → (i + -1).toInt = i.toInt - 1 → F (i + -1) → F i) (last : ∀ i, i.toInt = -1 → F i) : ∀ i : Int32, -1 ≤ i.toInt → F i := by
  have key : ∀ n : Nat, ∀ i : Int32, i.toInt + 1 = n → F i := by
    intro n
    induction n with
    | zero => intro i h; exact last i (by omega)
    | succ n ih =>
      intro i h
      have r := rng32 i
      have e : (i + -1).toInt = i.toInt - 1 := by rw [i32_add] <;> simp <;> omega
      exact step i (by omega) e (ih _ (by omega))
  intro i h
  exact key (i.toInt + 1).toNat i (by omega)
/-- the sum of the active clients' amounts in currency c -/
def own_sA (s : St) (c : Int32) : Nat → Int64
  | 0 => 0
  | n + 1 => if gI s 17 n = 0 then own_sA s c n else if gI s 6 n = c then own_sA s c n + Int32.toInt64 (gI s 7 n) else own_sA s c n
/-- and of the backings of its issuing children b .. -/
def own_sB (s : St) (c : Int32) (b : Nat) (x : Int64) : Nat → Int64
  | 0 => x
  | n + 1 => if ((b + n : Nat) : Int) < (gI s 0 40).toInt ∧ gI s 1 (b + n) = c ∧ 0 < gL s 3 (b + n) then own_sB s c b x n + Int32.toInt64 (gI s 2 (b + n)) else own_sB s c b x n
theorem own_sA_eq {s t : St} (h17 : ∀ j, gI t 17 j = gI s 17 j) (h6 : ∀ j, gI t 6 j = gI s 6 j) (h7 : ∀ j, gI t 7 j = gI s 7 j) (c : Int32) : ∀ n, own_sA t c n = own_sA s c n
  | 0 => rfl
  | n + 1 => by simp only [own_sA, h17, h6, h7, own_sA_eq h17 h6 h7 c n]
theorem own_sB_eq {s t : St} {b m : Nat} (h0 : gI t 0 40 = gI s 0 40) (h1 : ∀ j, gI t 1 j = gI s 1 j) (h2 : ∀ j, gI t 2 j = gI s 2 j) (h3 : ∀ j, b ≤ j → j < b + m → gL t 3 j = gL s 3 j) (c : Int32) (x : Int64) : ∀ n, n ≤ m → own_sB t c b x n = own_sB s c b x n
  | 0, _ => rfl
  | n + 1, hn => by simp only [own_sB, h0, h1, h2, h3 (b + n) (by omega) (by omega), own_sB_eq h0 h1 h2 h3 c x n (by omega)]
def own_I (s : St) (c : Int32) : Int64 := if c < gI s 0 40 then own_sB s c (ix c + 1) (own_sA s c 16) (7 - ix c) else 0
theorem own_22a (u : St) (c : Int32) (Q : St → Prop) (h : wpcV PP 22 cm22 21 80 [some (.ref 0), some (.int c), some (.long (own_sA u c 16)), none, some (.int (c + 1))] [] u Q) : wpcV PP 22 cm22 21 30 [some (.ref 0), some (.int c), some (.long (0 : Int64)), none, some (.int (0 : Int32))] [] u Q := by
  refine loop_up (F := fun i => wpcV PP 22 cm22 21 30 [some (.ref 0), some (.int c), some (.long (own_sA u c (ix i))), none, some (.int i)] [] u Q) 16 (by decide) (fun i h0 h1 e ih => ?_) (fun i hi => ?_) 0 (by decide) (by decide)
  · have x1 : ix (i + 1) = ix i + 1 := by
      have p := ix_int (i := i + 1) (by omega); have t := ix_int h0; omega
    rw [x1] at ih
    have ib : inb 16 i := ⟨h0, h1⟩
    unfold own_sA at ih
    refine c22_30 _ _ _ _ _ ⟨fun _ => ⟨ib, fun a => c22_69 _ _ _ _ _ ?_, fun a => ⟨ib, fun b => ⟨ib, c22_69 _ _ _ _ _ ?_⟩, fun b => c22_69 _ _ _ _ _ ?_⟩⟩, fun q => absurd (by rw [i32_lt]; exact h1) q⟩
    · rw [if_pos a] at ih; exact ih
    · rw [if_neg a, if_pos b] at ih; exact ih
    · rw [if_neg a, if_neg b] at ih; exact ih
  · have : ix i = 16 := by have := ix_int (i := i) (by omega); omega
    rw [this]
    exact c22_30 _ _ _ _ _ ⟨fun q => absurd q (by rw [i32_lt, hi]; decide), fun _ => h⟩
theorem own_22b (u : St) (c : Int32) (x : Int64) (hc : inb 8 c) (Q : St → Prop) (h : wpcV PP 22 cm22 21 143 [some (.ref 0), some (.int c), none, none, none] [] (sL u 3 (ix c) (own_sB u c (ix c + 1) x (7 - ix c))) Q) : wpcV PP 22 cm22 21 80 [some (.ref 0), some (.int c), some (.long x), none, some (.int (c + 1))] [] u Q := by
  obtain ⟨c0, c1⟩ := hc
  have ec : (c + 1).toInt = c.toInt + 1 := by rw [i32_add] <;> simp <;> omega
  have kc := ix_int c0
  have start : wpcV PP 22 cm22 21 80 [some (.ref 0), some (.int c), some (.long (own_sB u c (ix c + 1) x (ix (c + 1) - (ix c + 1)))), none, some (.int (c + 1))] [] u Q := by
    refine loop_up (F := fun i => c.toInt < i.toInt → wpcV PP 22 cm22 21 80 [some (.ref 0), some (.int c), some (.long (own_sB u c (ix c + 1) x (ix i - (ix c + 1)))), none, some (.int i)] [] u Q) 8 (by decide) (fun i h0 h1 e ih hci => ?_) (fun i hi hci => ?_) (c + 1) (by omega) (by omega) (by omega)
    · have ki := ix_int h0
      have ki1 := ix_int (i := i + 1) (by omega)
      have x1 : ix (i + 1) - (ix c + 1) = (ix i - (ix c + 1)) + 1 := by omega
      have x2 : ix c + 1 + (ix i - (ix c + 1)) = ix i := by omega
      have ib : inb 8 i := ⟨h0, h1⟩
      have ih := ih (by omega)
      rw [x1] at ih
      generalize hG : own_sB u c (ix c + 1) x (ix i - (ix c + 1) + 1) = G at ih
      simp only [own_sB, x2] at hG
      have nx : ∀ y, y = G → wpcV PP 22 cm22 21 130 [some (.ref 0), some (.int c), some (.long y), none, some (.int i)] [] u Q := fun y hy => by subst hy; exact c22_130 _ _ _ _ _ ih
      refine c22_80 _ _ _ _ _ ⟨fun _ => ⟨fun a => ⟨ib, fun b => ⟨ib, fun d => ⟨ib, nx _ ?_⟩, fun d => nx _ ?_⟩, fun b => nx _ ?_⟩, fun a => nx _ ?_⟩, fun q => absurd (by rw [i32_lt]; exact h1) q⟩
      · rw [← hG, if_pos ⟨by rw [i32_lt] at a; omega, b, cmpL_gt.mp d⟩]
      · rw [← hG, if_neg (fun q => d (cmpL_gt.mpr q.2.2))]
      · rw [← hG, if_neg (fun q => b q.2.1)]
      · rw [← hG, if_neg (fun q => a (by rw [i32_lt]; have := q.1; omega))]
    · have ki := ix_int (i := i) (by omega)
      have x1 : ix i - (ix c + 1) = 7 - ix c := by omega
      rw [x1]
      exact c22_80 _ _ _ _ _ ⟨fun q => absurd q (by rw [i32_lt, hi]; decide), fun _ => ⟨⟨c0, c1⟩, h⟩⟩
  have z : ix (c + 1) - (ix c + 1) = 0 := by have := ix_int (i := c + 1) (by omega); omega
  rw [z] at start
  exact start
/-- computeIssued -/
theorem own_22 (s : St) (Q : St → Prop) (h : ∀ t, own_fr (fun c => c = 3) s t → (∀ c, inb 8 c → gL t 3 (ix c) = own_I t c) → Q t) : calV PP 22 21 [.ref 0] s Q := by
  apply c22_in
  refine own_down (F := fun c => c.toInt < 8 → ∀ u, own_fr (fun c => c = 3) s u → (∀ k : Int32, c.toInt < k.toInt → k.toInt < 8 → 0 ≤ k.toInt → gL u 3 (ix k) = own_I u k) → wpcV PP 22 cm22 21 3 [some (.ref 0), some (.int c), none, none, none] [] u Q) (fun c h0 e ih h8 u hu hk => ?_) (fun c hc _ u hu hk => ?_) 7 (by decide) (by decide) s (own_fr_rfl _ s) (fun k a b => absurd b (by simp at a; omega))
  · have ib : inb 8 c := ⟨h0, h8⟩
    have kc := ix_int h0
    have next : ∀ v, v = own_I u c → wpcV PP 22 cm22 21 143 [some (.ref 0), some (.int c), none, none, none] [] (sL u 3 (ix c) v) Q := by
      intro v ev
      refine c22_143 _ _ _ (ih (by omega) _ (own_fr_sL rfl hu) fun k k1 k8 k0 => ?_)
      have kk := ix_int k0
      have eI : own_I (sL u 3 (ix c) v) k = own_I u k := by
        unfold own_I
        rw [own_sB_eq (s := u) (m := 7 - ix k) (by rw [gI_sL]) (fun j => by rw [gI_sL]) (fun j => by rw [gI_sL]) (fun j j1 j2 => by rw [gL_sL, if_neg (by omega)]) k _ _ (Nat.le_refl _), own_sA_eq (s := u) (fun j => by rw [gI_sL]) (fun j => by rw [gI_sL]) (fun j => by rw [gI_sL]), gI_sL]
      rw [eI, gL_sL]
      by_cases q : k = c
      · subst q; rw [if_pos ⟨rfl, rfl⟩, ev]
      · have ne : ix k ≠ ix c := fun z => q ((ix_inj k0 h0).mp z)
        rw [if_neg (fun z => ne z.2)]; exact hk k (by rw [i32_eq] at q; omega) k8 k0
    refine c22_3 _ _ _ ⟨fun q => absurd q (by rw [i32_lt]; simp; omega), fun _ => ⟨fun a => ?_, fun a => ⟨ib, next _ ?_⟩⟩⟩
    · refine own_22a u c Q (own_22b u c _ ib Q (next _ ?_))
      rw [own_I, if_pos a]
    · rw [own_I, if_neg a]
  · exact c22_3 _ _ _ ⟨fun _ => h u hu fun k kb => hk k (by have := kb.1; omega) kb.2 kb.1, fun q => absurd (by rw [i32_lt, hc]; decide) q⟩
def own_W (u : St) (c : Int32) : Int64 := if c < gI u 0 40 ∧ gL u 3 (ix c) ≠ 0 then (if gI u 1 (ix c) = 0 then Int32.toInt64 (gI u 2 (ix c)) else if 0 < gI u 1 (ix c) ∧ gI u 1 (ix c) < c ∧ 0 < gL u 3 (ix (gI u 1 (ix c))) then (Int32.toInt64 (gI u 2 (ix c)) * gL u 4 (ix (gI u 1 (ix c)))) / gL u 3 (ix (gI u 1 (ix c))) else 0) else 0
/-- computeWorth -/
theorem own_23 (s : St) (Q : St → Prop) (h : ∀ t, own_fr (fun c => c = 4) s t → gL t 4 0 = 0 → (∀ c, inb 8 c → 1 ≤ c.toInt → gL t 4 (ix c) = own_W t c) → Q t) : calV PP 23 21 [.ref 0] s Q := by
  apply c23_in
  refine ⟨by decide, ?_⟩
  refine loop_up (F := fun c => 1 ≤ c.toInt → ∀ u, own_fr (fun c => c = 4) s u → gL u 4 0 = 0 → (∀ k : Int32, 1 ≤ k.toInt → k.toInt < c.toInt → gL u 4 (ix k) = own_W u k) → wpcV PP 23 cm23 21 9 [some (.ref 0), some (.int c), none] [] u Q) 8 (by decide) (fun c h0 h8 e ih c1 u hu hz hk => ?_) (fun c hc _ u hu hz hk => ?_) 1 (by decide) (by decide) (by decide) _ (own_fr_sL rfl (own_fr_rfl _ s)) (by rw [gL_sL]; exact if_pos ⟨rfl, rfl⟩) (fun k a b => absurd b (by simp; omega))
  · have ib : inb 8 c := ⟨h0, h8⟩
    have kc := ix_int h0
    have next : ∀ v, v = own_W u c → wpcV PP 23 cm23 21 128 [some (.ref 0), some (.int c), none] [] (sL u 4 (ix c) v) Q := by
      intro v ev
      refine c23_128 _ _ _ (ih (by omega) _ (own_fr_sL rfl hu) (by rw [gL_sL, if_neg (by omega)]; exact hz) fun k k1 k8 => ?_)
      have kk := ix_int (i := k) (by omega)
      have eW : own_W (sL u 4 (ix c) v) k = own_W u k := by
        unfold own_W
        simp only [gI_sL, gL_sL]
        by_cases g : 0 < gI u 1 (ix k) ∧ gI u 1 (ix k) < k
        · have kp := ix_int (i := gI u 1 (ix k)) (by have := g.1; rw [i32_lt] at this; simp at this; omega)
          have g2 := g.2
          rw [i32_lt] at g2
          rw [if_neg (show ¬ (3 = 4 ∧ ix k = ix c) by omega), if_neg (show ¬ (3 = 4 ∧ ix (gI u 1 (ix k)) = ix c) by omega), if_neg (show ¬ (True ∧ ix (gI u 1 (ix k)) = ix c) from fun q => by have := q.2; omega)]
        · rw [if_neg (show ¬ (3 = 4 ∧ ix k = ix c) by omega)]
          have n1 : ∀ P : Prop, ¬ (0 < gI u 1 (ix k) ∧ gI u 1 (ix k) < k ∧ P) := fun P q => g ⟨q.1, q.2.1⟩
          rw [if_neg (n1 _), if_neg (n1 _)]
      rw [eW, gL_sL]
      by_cases q : k = c
      · subst q; rw [if_pos ⟨rfl, rfl⟩, ev]
      · have ne : ix k ≠ ix c := fun z => q ((ix_inj (by omega) h0).mp z)
        rw [if_neg (fun z => ne z.2)]; exact hk k k1 (by rw [i32_eq] at q; omega)
    have z34 : own_W u c = 0 → wpcV PP 23 cm23 21 34 [some (.ref 0), some (.int c), none] [] u Q := fun q => c23_34 _ _ _ ⟨ib, next _ q.symm⟩
    have z121 : own_W u c = 0 → wpcV PP 23 cm23 21 121 [some (.ref 0), some (.int c), none] [] u Q := fun q => c23_121 _ _ _ ⟨ib, next _ q.symm⟩
    refine c23_9 _ _ _ ⟨fun _ => ⟨fun a => ⟨ib, fun b => z34 ?_, fun b => ⟨ib, fun d => ⟨ib, ib, next _ ?_⟩, fun d => ⟨fun f => ⟨fun g => ?_, fun g => z121 ?_⟩, fun f => z121 ?_⟩⟩⟩, fun a => z34 ?_⟩, fun q => absurd (by rw [i32_lt]; exact h8) q⟩
    · rw [own_W, if_neg (fun q => q.2 (cmpL_eq.mp b))]
    · rw [own_W, if_pos ⟨a, fun q => b (cmpL_eq.mpr q)⟩, if_pos d]
    · have pb : inb 8 (gI u 1 (ix c)) := ⟨by rw [i32_lt] at f; simp at f; omega, by rw [i32_lt] at g; omega⟩
      refine ⟨pb, fun m => ⟨ib, pb, pb, fun q => ?_, ib, next _ ?_⟩, fun m => z121 ?_⟩
      · have := cmpL_gt.mp m; rw [q] at this; exact absurd this (by decide)
      · rw [own_W, if_pos ⟨a, fun q => b (cmpL_eq.mpr q)⟩, if_neg d, if_pos ⟨f, g, cmpL_gt.mp m⟩]
      · rw [own_W, if_pos ⟨a, fun q => b (cmpL_eq.mpr q)⟩, if_neg d, if_neg (fun q => m (cmpL_gt.mpr q.2.2))]
    · rw [own_W, if_pos ⟨a, fun q => b (cmpL_eq.mpr q)⟩, if_neg d, if_neg (fun q => g q.2.1)]
    · rw [own_W, if_pos ⟨a, fun q => b (cmpL_eq.mpr q)⟩, if_neg d, if_neg (fun q => f q.1)]
    · rw [own_W, if_neg (fun q => a q.1)]
  · exact c23_9 _ _ _ ⟨fun q => absurd q (by rw [i32_lt, hc]; decide), fun _ => h u hu hz fun k kb k1 => hk k k1 (by have := kb.2; omega)⟩
def own_V (u : St) (j : Nat) : Int64 := if gI u 17 j = 0 then 0 else if gI u 6 j = 0 then Int32.toInt64 (gI u 7 j) else if 0 < gI u 6 j ∧ gI u 6 j < 8 ∧ 0 < gL u 3 (ix (gI u 6 j)) then (Int32.toInt64 (gI u 7 j) * gL u 4 (ix (gI u 6 j))) / gL u 3 (ix (gI u 6 j)) else 0
theorem own_V_fr {D : Nat → Prop} {s t : St} (h : own_fr D s t) (h17 : ¬ D 17) (h6 : ¬ D 6) (h7 : ¬ D 7) (h3 : ¬ D 3) (h4 : ¬ D 4) (j : Nat) : own_V t j = own_V s j := by
  simp only [own_V, h.1 17 _ h17, h.1 6 _ h6, h.1 7 _ h7, h.2 3 _ h3, h.2 4 _ h4]
/-- computeValues -/
theorem own_24 (s : St) (Q : St → Prop) (h : ∀ t, own_fr (fun c => c = 18) s t → (∀ j, j < 16 → gL t 18 j = own_V s j) → Q t) : calV PP 24 21 [.ref 0] s Q := by
  apply c24_in
  refine loop_up (F := fun i => ∀ u, own_fr (fun c => c = 18) s u → (∀ j, j < ix i → gL u 18 j = own_V s j) → wpcV PP 24 cm24 21 2 [some (.ref 0), some (.int i), none] [] u Q) 16 (by decide) (fun i h0 h1 e ih u hu hk => ?_) (fun i hi u hu hk => ?_) 0 (by decide) (by decide) s (own_fr_rfl _ s) (fun k a => absurd a (by simp [ix]))
  · have ib : inb 16 i := ⟨h0, h1⟩
    have kc := ix_int h0
    have ki := ix_int (i := i + 1) (by omega)
    have next : ∀ U v, own_fr (fun c => c = 18) s U → (∀ j, j < ix i → gL U 18 j = own_V s j) → gL U 18 (ix i) = v → v = own_V u (ix i) → wpcV PP 24 cm24 21 102 [some (.ref 0), some (.int i), none] [] U Q := by
      intro U v fU hU eU ev
      refine c24_102 _ _ _ (ih _ fU fun j hj => ?_)
      by_cases q : j = ix i
      · subst q; rw [eU, ev, own_V_fr hu (by decide) (by decide) (by decide) (by decide) (by decide)]
      · exact hU j (by omega)
    have f1 := fun v => own_fr_sL (D := fun c => c = 18) (c := 18) (i := ix i) (v := v) rfl hu
    have g1 : ∀ v, ∀ j, j < ix i → gL (sL u 18 (ix i) v) 18 j = own_V s j := fun v j hj => by rw [gL_sL, if_neg (by omega)]; exact hk j hj
    have v1 : ∀ v, gL (sL u 18 (ix i) v) 18 (ix i) = v := fun v => by rw [gL_sL, if_pos ⟨rfl, rfl⟩]
    have f2 := fun v w => own_fr_sL (D := fun c => c = 18) (c := 18) (i := ix i) (v := w) rfl (f1 v)
    have g2 : ∀ v w, ∀ j, j < ix i → gL (sL (sL u 18 (ix i) v) 18 (ix i) w) 18 j = own_V s j := fun v w j hj => by rw [gL_sL, if_neg (by omega)]; exact g1 v j hj
    have v2 : ∀ v w, gL (sL (sL u 18 (ix i) v) 18 (ix i) w) 18 (ix i) = w := fun v w => by rw [gL_sL, if_pos ⟨rfl, rfl⟩]
    refine c24_2 _ _ _ ⟨fun _ => ⟨ib, ib, fun a => next _ _ (f1 _) (g1 _) (v1 _) ?_, fun a => ⟨ib, fun b => ⟨ib, ib, next _ _ (f2 _ _) (g2 _ _) (v2 _ _) ?_⟩, fun b => ⟨fun d => ⟨fun f => ?_, fun f => next _ _ (f1 _) (g1 _) (v1 _) ?_⟩, fun d => next _ _ (f1 _) (g1 _) (v1 _) ?_⟩⟩⟩, fun q => absurd (by rw [i32_lt]; exact h1) q⟩
    · rw [own_V, if_pos a]
    · rw [own_V, if_neg a, if_pos b]
    · have pb : inb 8 (gI u 6 (ix i)) := ⟨by rw [i32_lt] at d; simp at d; omega, by rw [i32_lt] at f; simpa using f⟩
      refine ⟨pb, fun m => ⟨ib, pb, pb, fun q => ?_, ib, next _ _ (f2 _ _) (g2 _ _) (v2 _ _) ?_⟩, fun m => next _ _ (f1 _) (g1 _) (v1 _) ?_⟩
      · have := cmpL_gt.mp m; rw [q] at this; exact absurd this (by decide)
      · rw [own_V, if_neg a, if_neg b, if_pos ⟨d, f, cmpL_gt.mp m⟩]
      · rw [own_V, if_neg a, if_neg b, if_neg (fun q => m (cmpL_gt.mpr q.2.2))]
    · rw [own_V, if_neg a, if_neg b, if_neg (fun q => f q.2.1)]
    · rw [own_V, if_neg a, if_neg b, if_neg (fun q => d q.1)]
  · have : ix i = 16 := by have := ix_int (i := i) (by omega); omega
    rw [this] at hk
    exact c24_2 _ _ _ ⟨fun q => absurd q (by rw [i32_lt, hi]; decide), fun _ => h u hu hk⟩
/-- the sum of the values that h holds, over the first n clients -/
def own_Bs (s : St) (h : Int32) : Nat → Int64
  | 0 => 0
  | n + 1 => if gI s 17 n ≠ 0 ∧ gI s 16 n = h then own_Bs s h n + gL s 18 n else own_Bs s h n
theorem own_Bs_fr {D : Nat → Prop} {s t : St} (h : own_fr D s t) (h17 : ¬ D 17) (h16 : ¬ D 16) (h18 : ¬ D 18) (k : Int32) : ∀ n, own_Bs t k n = own_Bs s k n
  | 0 => rfl
  | n + 1 => by simp only [own_Bs, h.1 17 _ h17, h.1 16 _ h16, h.2 18 _ h18, own_Bs_fr h h17 h16 h18 k n]
def own_T (s : St) (i : Int32) : Int64 := if i < gI s 0 41 ∧ gI s 5 (ix i) = 1 then (if own_Bs s i 16 + gL s 11 (ix i) = 0 then 1 else own_Bs s i 16 + gL s 11 (ix i)) else 0
/-- computeTickets -/
theorem own_25 (s : St) (Q : St → Prop) (h : ∀ t, own_fr (fun c => c = 19 ∨ c = 20) s t → (∀ i, inb 16 i → gL t 19 (ix i) = own_Bs s i 16 ∧ gL t 20 (ix i) = own_T s i) → Q t) : calV PP 25 21 [.ref 0] s Q := by
  apply c25_in
  have fl : ∀ {u : St} {c i : Nat} {v : Int64}, (c = 19 ∨ c = 20) → own_fr (fun c => c = 19 ∨ c = 20) s u → own_fr (fun c => c = 19 ∨ c = 20) s (sL u c i v) := fun hc hu => own_fr_sL (D := fun c => c = 19 ∨ c = 20) hc hu
  have third : ∀ u, own_fr (fun c => c = 19 ∨ c = 20) s u → (∀ k, inb 16 k → gL u 19 (ix k) = own_Bs s k 16) → wpcV PP 25 cm25 21 82 [some (.ref 0), some (.int (0 : Int32)), none, none] [] u Q := by
    intro u hu hk
    refine loop_up (F := fun i => ∀ u, own_fr (fun c => c = 19 ∨ c = 20) s u → (∀ k, inb 16 k → gL u 19 (ix k) = own_Bs s k 16) → (∀ k : Int32, 0 ≤ k.toInt → k.toInt < i.toInt → gL u 20 (ix k) = own_T s k) → wpcV PP 25 cm25 21 82 [some (.ref 0), some (.int i), none, none] [] u Q) 16 (by decide) (fun i h0 h1 e ih u hu hk ht => ?_) (fun i hi u hu hk ht => ?_) 0 (by decide) (by decide) u hu hk (fun k a b => absurd b (by simp; omega))
    · have ib : inb 16 i := ⟨h0, h1⟩
      have next : ∀ v, v = own_T s i → wpcV PP 25 cm25 21 147 [some (.ref 0), some (.int i), none, none] [] (sL u 20 (ix i) v) Q := by
        intro v ev
        refine c25_147 _ _ _ (ih _ (fl (Or.inr rfl) hu) (fun k kb => by rw [gL_sL, if_neg (by omega)]; exact hk k kb) fun k k0 k1 => ?_)
        rw [gL_sL]
        by_cases q : k = i
        · subst q; rw [if_pos ⟨rfl, rfl⟩, ev]
        · have ne : ix k ≠ ix i := fun z => q ((ix_inj k0 h0).mp z)
          rw [if_neg (fun z => ne z.2)]; exact ht k k0 (by rw [i32_eq] at q; omega)
      have z : own_T s i = 0 → wpcV PP 25 cm25 21 140 [some (.ref 0), some (.int i), none, none] [] u Q := fun q => c25_140 _ _ _ ⟨ib, next _ q.symm⟩
      have e0 := hu.1 0 41 (by decide)
      have e5 := hu.1 5 (ix i) (by decide)
      have e11 := hu.2 11 (ix i) (by decide)
      refine c25_82 _ _ _ ⟨fun _ => ⟨fun a => ⟨ib, fun b => ⟨ib, ib, fun m em => ⟨ib, next _ ?_⟩⟩, fun b => z ?_⟩, fun a => z ?_⟩, fun q => absurd (by rw [i32_lt]; exact h1) q⟩
      · rw [e0] at a; rw [e5] at b
        rw [own_T, if_pos ⟨a, b⟩, em, hk i ib, e11]
        simp only [cmpL_eq]
      · rw [e5] at b
        rw [own_T, if_neg (fun q => b q.2)]
      · rw [e0] at a
        rw [own_T, if_neg (fun q => a q.1)]
    · exact c25_82 _ _ _ ⟨fun q => absurd q (by rw [i32_lt, hi]; decide), fun _ => h u hu fun k kb => ⟨hk k kb, ht k kb.1 (by have := kb.2; omega)⟩⟩
  have second : ∀ u, own_fr (fun c => c = 19 ∨ c = 20) s u → (∀ k, inb 16 k → gL u 19 (ix k) = 0) → wpcV PP 25 cm25 21 23 [some (.ref 0), some (.int (0 : Int32)), none, none] [] u Q := by
    intro u hu hk
    refine loop_up (F := fun i => ∀ u, own_fr (fun c => c = 19 ∨ c = 20) s u → (∀ k, inb 16 k → gL u 19 (ix k) = own_Bs s k (ix i)) → wpcV PP 25 cm25 21 23 [some (.ref 0), some (.int i), none, none] [] u Q) 16 (by decide) (fun i h0 h1 e ih u hu hk => ?_) (fun i hi u hu hk => ?_) 0 (by decide) (by decide) u hu hk
    · have ib : inb 16 i := ⟨h0, h1⟩
      have x1 : ix (i + 1) = ix i + 1 := by
        have p := ix_int (i := i + 1) (by omega); have t := ix_int h0; omega
      rw [x1] at ih
      have e17 := hu.1 17 (ix i) (by decide)
      have e16 := hu.1 16 (ix i) (by decide)
      have e18 := hu.2 18 (ix i) (by decide)
      have z : (∀ k, inb 16 k → ¬ (gI s 17 (ix i) ≠ 0 ∧ gI s 16 (ix i) = k)) → wpcV PP 25 cm25 21 74 [some (.ref 0), some (.int i), none, none] [] u Q := fun q => c25_74 _ _ _ (ih _ hu fun k kb => by rw [own_Bs, if_neg (q k kb)]; exact hk k kb)
      refine c25_23 _ _ _ ⟨fun _ => ⟨ib, ib, fun a => z fun k kb q => q.1 (e17 ▸ a), fun a => ⟨fun b => z fun k kb q => ?_, fun b => ⟨fun c => ?_, fun c => z fun k kb q => ?_⟩⟩⟩, fun q => absurd (by rw [i32_lt]; exact h1) q⟩
      · rw [e16, q.2, i32_lt] at b; have := kb.1; simp at b; omega
      · have hb : inb 16 (gI u 16 (ix i)) := ⟨by rw [i32_lt] at b; simp at b; omega, by rw [i32_lt] at c; simpa using c⟩
        refine ⟨hb, ib, hb, c25_74 _ _ _ (ih _ (fl (Or.inl rfl) hu) fun k kb => ?_)⟩
        rw [e17] at a
        rw [e16] at hb ⊢
        rw [gL_sL, own_Bs]
        by_cases q : gI s 16 (ix i) = k
        · rw [if_pos ⟨rfl, by rw [q]⟩, if_pos ⟨a, q⟩, hk _ hb, e18, q]
        · have ne : ix k ≠ ix (gI s 16 (ix i)) := fun w => q ((ix_inj kb.1 hb.1).mp w).symm
          rw [if_neg (fun w => ne w.2), if_neg (fun w => q w.2)]; exact hk k kb
      · rw [e16, q.2, i32_lt] at c; have := kb.2; simp at c; omega
    · have : ix i = 16 := by have := ix_int (i := i) (by omega); omega
      rw [this] at hk
      exact c25_23 _ _ _ ⟨fun q => absurd q (by rw [i32_lt, hi]; decide), fun _ => third u hu hk⟩
  refine loop_up (F := fun i => ∀ u, own_fr (fun c => c = 19 ∨ c = 20) s u → (∀ k : Int32, 0 ≤ k.toInt → k.toInt < i.toInt → gL u 19 (ix k) = 0) → wpcV PP 25 cm25 21 2 [some (.ref 0), some (.int i), none, none] [] u Q) 16 (by decide) (fun i h0 h1 e ih u hu hk => ?_) (fun i hi u hu hk => ?_) 0 (by decide) (by decide) s (own_fr_rfl _ s) (fun k a b => absurd b (by simp; omega))
  · refine c25_2 _ _ _ ⟨fun _ => ⟨⟨h0, h1⟩, ih _ (fl (Or.inl rfl) hu) fun k k0 k1 => ?_⟩, fun q => absurd (by rw [i32_lt]; exact h1) q⟩
    rw [gL_sL]
    by_cases q : k = i
    · subst q; rw [if_pos ⟨rfl, rfl⟩]
    · have ne : ix k ≠ ix i := fun z => q ((ix_inj k0 h0).mp z)
      rw [if_neg (fun z => ne z.2)]; exact hk k k0 (by rw [i32_eq] at q; omega)
  · exact c25_2 _ _ _ ⟨fun q => absurd q (by rw [i32_lt, hi]; decide), fun _ => second u hu fun k kb => hk k kb.1 (by have := kb.2; omega)⟩
theorem own_I_fr {D : Nat → Prop} {s t : St} (h : own_fr D s t) (h0 : ¬ D 0) (h1 : ¬ D 1) (h2 : ¬ D 2) (h3 : ¬ D 3) (h6 : ¬ D 6) (h7 : ¬ D 7) (h17 : ¬ D 17) (c : Int32) : own_I t c = own_I s c := by
  unfold own_I
  rw [own_sB_eq (s := s) (m := 7 - ix c) (h.1 0 40 h0) (fun j => h.1 1 j h1) (fun j => h.1 2 j h2) (fun j _ _ => h.2 3 j h3) c _ _ (Nat.le_refl _), own_sA_eq (fun j => h.1 17 j h17) (fun j => h.1 6 j h6) (fun j => h.1 7 j h7), h.1 0 40 h0]
theorem own_W_fr {D : Nat → Prop} {s t : St} (h : own_fr D s t) (h0 : ¬ D 0) (h1 : ¬ D 1) (h2 : ¬ D 2) (h3 : ¬ D 3) (h4 : ¬ D 4) (c : Int32) : own_W t c = own_W s c := by
  simp only [own_W, h.1 0 _ h0, h.1 1 _ h1, h.1 2 _ h2, h.2 3 _ h3, h.2 4 _ h4]
theorem own_T_fr {D : Nat → Prop} {s t : St} (h : own_fr D s t) (h0 : ¬ D 0) (h5 : ¬ D 5) (h11 : ¬ D 11) (h17 : ¬ D 17) (h16 : ¬ D 16) (h18 : ¬ D 18) (i : Int32) : own_T t i = own_T s i := by
  simp only [own_T, h.1 0 _ h0, h.1 5 _ h5, h.2 11 _ h11, own_Bs_fr h h17 h16 h18]
theorem own_fr_tr {D E F : Nat → Prop} {s t u : St} (h : own_fr D s t) (k : own_fr E t u) (hd : ∀ c, ¬ F c → ¬ D c) (he : ∀ c, ¬ F c → ¬ E c) : own_fr F s u :=
  ⟨fun c i q => by rw [k.1 c i (he c q), h.1 c i (hd c q)], fun c i q => by rw [k.2 c i (he c q), h.2 c i (hd c q)]⟩
def own_D (c : Nat) : Prop := c = 3 ∨ c = 4 ∨ c = 16 ∨ c = 17 ∨ c = 18 ∨ c = 19 ∨ c = 20
/-- what refresh leaves -/
def own_R (s t : St) : Prop := own_fr own_D s t ∧ (∀ i, inb 16 i → gI t 16 (ix i) = own_Ho t i ∧ gI t 17 (ix i) = own_A t i) ∧ (∀ c, inb 8 c → gL t 3 (ix c) = own_I t c) ∧ gL t 4 0 = 0 ∧ (∀ c, inb 8 c → 1 ≤ c.toInt → gL t 4 (ix c) = own_W t c) ∧ (∀ j, j < 16 → gL t 18 j = own_V t j) ∧ (∀ i, inb 16 i → gL t 19 (ix i) = own_Bs t i 16 ∧ gL t 20 (ix i) = own_T t i)
theorem own_19 (s : St) (Q : St → Prop) (h : ∀ t, own_R s t → Q t) : calV PP 19 21 [.ref 0] s Q := by
  apply c19_in
  refine own_21 s _ fun t1 f1 a1 => ?_
  refine own_22 t1 _ fun t2 f2 a2 => ?_
  refine own_23 t2 _ fun t3 f3 z3 a3 => ?_
  refine own_24 t3 _ fun t4 f4 a4 => ?_
  refine own_25 t4 _ fun t5 f5 a5 => h t5 ?_
  have g4 : own_fr (fun c => c = 18 ∨ c = 19 ∨ c = 20) t3 t5 := own_fr_tr f4 f5 (fun c q => by omega) (fun c q => by omega)
  have g3 : own_fr (fun c => c = 4 ∨ c = 18 ∨ c = 19 ∨ c = 20) t2 t5 := own_fr_tr f3 g4 (fun c q => by omega) (fun c q => by omega)
  have g2 : own_fr (fun c => c = 3 ∨ c = 4 ∨ c = 18 ∨ c = 19 ∨ c = 20) t1 t5 := own_fr_tr f2 g3 (fun c q => by omega) (fun c q => by omega)
  have g1 : own_fr own_D s t5 := own_fr_tr f1 g2 (fun c q => by unfold own_D at q; omega) (fun c q => by unfold own_D at q; omega)
  refine ⟨g1, fun i ib => ?_, fun c cb => ?_, ?_, fun c cb c1 => ?_, fun j hj => ?_, fun i ib => ?_⟩
  · rw [g2.1 16 _ (by decide), g2.1 17 _ (by decide), own_Ho_fr g1 (by unfold own_D; decide) (by unfold own_D; decide) (by unfold own_D; decide), own_A_fr g1 (by unfold own_D; decide) (by unfold own_D; decide) (by unfold own_D; decide)]
    exact a1 i ib
  · rw [g3.2 3 _ (by decide), own_I_fr g3 (by decide) (by decide) (by decide) (by decide) (by decide) (by decide) (by decide)]
    exact a2 c cb
  · rw [g4.2 4 _ (by decide)]; exact z3
  · rw [g4.2 4 _ (by decide), own_W_fr g4 (by decide) (by decide) (by decide) (by decide) (by decide)]
    exact a3 c cb c1
  · rw [f5.2 18 _ (by decide), own_V_fr g4 (by decide) (by decide) (by decide) (by decide) (by decide)]
    exact a4 j hj
  · rw [own_Bs_fr f5 (by decide) (by decide) (by decide), own_T_fr f5 (by decide) (by decide) (by decide) (by decide) (by decide) (by decide)]
    exact a5 i ib
/-- snapshot -/
theorem own_18 (s : St) (Q : St → Prop) (h : ∀ t, own_fr (fun c => c = 21) s t → (∀ i, inb 16 i → gI t 21 (ix i) = if i < gI s 0 41 ∧ gI s 5 (ix i) = 1 then 1 else 0) → Q t) : calV PP 18 21 [.ref 0] s Q := by
  apply c18_in
  refine loop_up (F := fun i => ∀ u, own_fr (fun c => c = 21) s u → (∀ k : Int32, 0 ≤ k.toInt → k.toInt < i.toInt → gI u 21 (ix k) = if k < gI s 0 41 ∧ gI s 5 (ix k) = 1 then 1 else 0) → wpcV PP 18 cm18 21 2 [some (.ref 0), some (.int i)] [] u Q) 16 (by decide) (fun i h0 h1 e ih u hu hk => ?_) (fun i hi u hu hk => ?_) 0 (by decide) (by decide) s (own_fr_rfl _ s) (fun k a b => absurd b (by simp; omega))
  · have ib : inb 16 i := ⟨h0, h1⟩
    have next : ∀ v, v = (if i < gI s 0 41 ∧ gI s 5 (ix i) = 1 then 1 else 0) → wpcV PP 18 cm18 21 2 [some (.ref 0), some (.int (i + 1))] [] (sI u 21 (ix i) v) Q := by
      intro v ev
      refine ih _ (own_fr_sI (D := fun c => c = 21) rfl hu) fun k k0 k1 => ?_
      rw [gI_sI]
      by_cases q : k = i
      · subst q; rw [if_pos ⟨rfl, rfl⟩, ev]
      · have ne : ix k ≠ ix i := fun z => q ((ix_inj k0 h0).mp z)
        rw [if_neg (fun z => ne z.2)]; exact hk k k0 (by rw [i32_eq] at q; omega)
    have e0 := hu.1 0 41 (by decide)
    have e5 := hu.1 5 (ix i) (by decide)
    refine c18_2 _ _ _ ⟨fun _ => ⟨fun a => ⟨ib, fun m em => ⟨ib, next _ ?_⟩⟩, fun a => ⟨ib, next _ ?_⟩⟩, fun q => absurd (by rw [i32_lt]; exact h1) q⟩
    · rw [e0] at a; rw [em, e5]
      by_cases b : gI s 5 (ix i) = 1
      · rw [if_pos b, if_pos ⟨a, b⟩]; decide
      · rw [if_neg b, if_neg (fun q => b q.2)]; decide
    · rw [e0] at a; rw [if_neg (fun q => a q.1)]
  · exact c18_2 _ _ _ ⟨fun q => absurd q (by rw [i32_lt, hi]; decide), fun _ => h u hu fun k kb => hk k kb.1 (by have := kb.2; omega)⟩
/-- leastPassOfP -/
theorem own_26 (s : St) (Q : Int64 → St → Prop) (h : ∀ m, (∀ i, inb 16 i → gI s 21 (ix i) ≠ 0 → m.toInt ≤ (gL s 12 (ix i)).toInt) → ((∃ i, inb 16 i ∧ gI s 21 (ix i) ≠ 0 ∧ gL s 12 (ix i) = m) ∨ ((∀ i, inb 16 i → gI s 21 (ix i) = 0) ∧ m = 0)) → Q m s) : calL PP 26 21 [.ref 0] s Q := by
  apply c26_in
  refine loop_up (F := fun i => ∀ m f, (∀ k : Int32, 0 ≤ k.toInt → k.toInt < i.toInt → gI s 21 (ix k) ≠ 0 → m.toInt ≤ (gL s 12 (ix k)).toInt) → ((f ≠ 0 ∧ ∃ k, inb 16 k ∧ gI s 21 (ix k) ≠ 0 ∧ gL s 12 (ix k) = m) ∨ (f = 0 ∧ (∀ k : Int32, 0 ≤ k.toInt → k.toInt < i.toInt → gI s 21 (ix k) = 0) ∧ m = 0)) → wpcL PP 26 cm26 21 7 [some (.ref 0), some (.long m), none, some (.int f), some (.int i)] [] s Q) 16 (by decide) (fun i h0 h1 e ih m f hm hf => ?_) (fun i hi m f hm hf => ?_) 0 (by decide) (by decide) 0 0 (fun k a b => absurd b (by simp; omega)) (Or.inr ⟨rfl, fun k a b => absurd b (by simp; omega), rfl⟩)
  · have ib : inb 16 i := ⟨h0, h1⟩
    have cut : ∀ {P : Int32 → Prop}, (∀ k : Int32, 0 ≤ k.toInt → k.toInt < i.toInt → P k) → P i → ∀ k : Int32, 0 ≤ k.toInt → k.toInt < (i + 1).toInt → P k := by
      intro P hP hi k k0 k1
      by_cases q : k = i
      · subst q; exact hi
      · exact hP k k0 (by rw [i32_eq] at q; omega)
    have take : gI s 21 (ix i) ≠ 0 → (∀ k : Int32, 0 ≤ k.toInt → k.toInt < i.toInt → gI s 21 (ix k) ≠ 0 → (gL s 12 (ix i)).toInt ≤ (gL s 12 (ix k)).toInt) → wpcL PP 26 cm26 21 40 [some (.ref 0), none, none, none, some (.int i)] [] s Q := by
      intro a b
      exact c26_40 _ _ _ ⟨ib, c26_50 _ _ _ _ _ (ih _ _ (cut b (fun _ => Int.le_refl _)) (Or.inl ⟨by decide, i, ib, a, rfl⟩))⟩
    have skip : (gI s 21 (ix i) ≠ 0 → f ≠ 0 ∧ m.toInt ≤ (gL s 12 (ix i)).toInt) → wpcL PP 26 cm26 21 50 [some (.ref 0), some (.long m), none, some (.int f), some (.int i)] [] s Q := by
      intro a
      refine c26_50 _ _ _ _ _ (ih _ _ (cut hm (fun q => (a q).2)) ?_)
      rcases hf with hf | ⟨f0, hz, m0⟩
      · exact Or.inl hf
      · exact Or.inr ⟨f0, cut hz (Classical.byContradiction fun q => (a q).1 f0), m0⟩
    refine c26_7 _ _ _ _ _ ⟨fun _ => ⟨ib, fun a => skip fun q => absurd a q, fun a => ⟨fun b => take a fun k k0 k1 k2 => ?_, fun b => ⟨ib, fun c => take a fun k k0 k1 k2 => ?_, fun c => skip fun _ => ⟨b, ?_⟩⟩⟩⟩, fun q => absurd (by rw [i32_lt]; exact h1) q⟩
    · rcases hf with hf | ⟨f0, hz, m0⟩
      · exact absurd b hf.1
      · exact absurd (hz k k0 k1) k2
    · have := hm k k0 k1 k2; have c := cmpL_lt.mp c; rw [Int64.lt_iff_toInt_lt] at c; omega
    · have c : ¬ gL s 12 (ix i) < m := fun q => c (cmpL_lt.mpr q)
      rw [Int64.lt_iff_toInt_lt] at c; omega
  · refine c26_7 _ _ _ _ _ ⟨fun q => absurd q (by rw [i32_lt, hi]; decide), fun _ => h m (fun k kb => hm k kb.1 (by have := kb.2; omega)) ?_⟩
    rcases hf with hf | ⟨f0, hz, m0⟩
    · exact Or.inl hf.2
    · exact Or.inr ⟨fun k kb => hz k kb.1 (by have := kb.2; omega), m0⟩
def own_sd (s : St) (i : Int32) : Int64 := if gI s 5 (ix i) = 1 ∧ 0 < gL s 20 (ix i) then 1048576 / gL s 20 (ix i) else 0
def own_np (s : St) (i : Int32) (m : Int64) : Int64 := if gI s 21 (ix i) = 0 then (if gI s 5 (ix i) = 1 then (if 0 < gL s 15 (ix i) then (gL s 14 (ix i) * own_sd s i) / gL s 15 (ix i) else own_sd s i) else gL s 12 (ix i)) else (if gI s 5 (ix i) = 1 then (if 0 < gL s 13 (ix i) then ((gL s 12 (ix i) - m) * own_sd s i) / gL s 13 (ix i) else 0) else 0)
def own_ns (s : St) (i : Int32) : Int64 := if gI s 5 (ix i) = 1 then own_sd s i else if gI s 21 (ix i) = 0 then gL s 13 (ix i) else 0
def own_nr (s : St) (i : Int32) (m : Int64) : Int64 := if gI s 5 (ix i) = 1 ∨ gI s 21 (ix i) = 0 then gL s 14 (ix i) else gL s 12 (ix i) - m
def own_nq (s : St) (i : Int32) : Int64 := if gI s 5 (ix i) = 1 ∨ gI s 21 (ix i) = 0 then gL s 15 (ix i) else gL s 13 (ix i)
/-- what rescale leaves -/
def own_S (s : St) (i : Int32) (m : Int64) (t : St) : Prop := (∀ c j, gI t c j = gI s c j) ∧ (∀ c j, (j ≠ ix i ∨ (c ≠ 12 ∧ c ≠ 13 ∧ c ≠ 14 ∧ c ≠ 15)) → gL t c j = gL s c j) ∧ gL t 12 (ix i) = own_np s i m ∧ gL t 13 (ix i) = own_ns s i ∧ gL t 14 (ix i) = own_nr s i m ∧ gL t 15 (ix i) = own_nq s i
theorem own_28 (s : St) (i : Int32) (m : Int64) (ib : inb 16 i) (Q : St → Prop) (h : ∀ t, own_S s i m t → Q t) : calV PP 28 21 [.ref 0, .int i, .long m] s Q := by
  apply c28_in
  have nz : ∀ {x : Int64}, 0 < XT.cmpL x 0 → ¬ x = 0 := fun q e => by have := cmpL_gt.mp q; rw [e] at this; exact absurd this (by decide)
  have run : gI s 5 (ix i) = 1 → ∀ x, x = own_sd s i → wpcV PP 28 cm28 21 48 [some (.ref 0), some (.int i), some (.long m), none, some (.int (1 : Int32)), some (.long x), none] [] s Q := by
    intro r x ex
    refine c28_48 _ _ _ _ _ _ ⟨ib, fun a => ⟨fun q => absurd q (by decide), fun _ => ⟨ib, fun b => ⟨ib, ib, nz b, ib, c28_204 _ _ _ _ ⟨ib, h _ ?_⟩⟩, fun b => ⟨ib, c28_204 _ _ _ _ ⟨ib, h _ ?_⟩⟩⟩⟩, fun a => ⟨fun q => absurd q (by decide), fun _ => ⟨ib, fun b => ⟨ib, ib, nz b, c28_100 _ _ _ _ _ _ ⟨ib, ib, h _ ?_⟩⟩, fun b => c28_100 _ _ _ _ _ _ ⟨ib, ib, h _ ?_⟩⟩⟩⟩
    · have b := cmpL_gt.mp b
      refine ⟨fun c j => by simp [gI_sL], fun c j q => by rw [gL_sL, gL_sL, if_neg (by omega), if_neg (by omega)], ?_, ?_, ?_, ?_⟩
      · simp [gL_sL, own_np, a, r, b, ex]
      · simp [gL_sL, own_ns, a, r, ex]
      · simp [gL_sL, own_nr, a, r]
      · simp [gL_sL, own_nq, a, r]
    · have b := fun q => b (cmpL_gt.mpr q)
      refine ⟨fun c j => by simp [gI_sL], fun c j q => by rw [gL_sL, gL_sL, if_neg (by omega), if_neg (by omega)], ?_, ?_, ?_, ?_⟩
      · simp only [gL_sL, own_np, a, r, if_neg b, ex]; simp
      · simp [gL_sL, own_ns, a, r, ex]
      · simp [gL_sL, own_nr, a, r]
      · simp [gL_sL, own_nq, a, r]
    · have b := cmpL_gt.mp b
      refine ⟨fun c j => by simp [gI_sL], fun c j q => by rw [gL_sL, gL_sL, if_neg (by omega), if_neg (by omega)], ?_, ?_, ?_, ?_⟩
      · simp [gL_sL, own_np, a, r, b, ex]
      · simp [gL_sL, own_ns, a, r, ex]
      · simp [gL_sL, own_nr, a, r]
      · simp [gL_sL, own_nq, a, r]
    · have b := fun q => b (cmpL_gt.mpr q)
      refine ⟨fun c j => by simp [gI_sL], fun c j q => by rw [gL_sL, gL_sL, if_neg (by omega), if_neg (by omega)], ?_, ?_, ?_, ?_⟩
      · simp only [gL_sL, own_np, a, r, if_neg b, ex]; simp
      · simp [gL_sL, own_ns, a, r, ex]
      · simp [gL_sL, own_nr, a, r]
      · simp [gL_sL, own_nq, a, r]
  have stop : gI s 5 (ix i) ≠ 1 → wpcV PP 28 cm28 21 48 [some (.ref 0), some (.int i), some (.long m), none, some (.int (0 : Int32)), some (.long (0 : Int64)), none] [] s Q := by
    intro r
    refine c28_48 _ _ _ _ _ _ ⟨ib, fun a => ⟨fun _ => h _ ?_, fun q => absurd rfl q⟩, fun a => ⟨fun _ => ⟨ib, ib, ib, ib, ib, ib, h _ ?_⟩, fun q => absurd rfl q⟩⟩
    · refine ⟨fun c j => rfl, fun c j q => rfl, ?_, ?_, ?_, ?_⟩
      · simp [own_np, a, r]
      · simp [own_ns, a, r]
      · simp [own_nr, a, r]
      · simp [own_nq, a, r]
    · refine ⟨fun c j => by simp [gI_sL], fun c j q => by rw [gL_sL, gL_sL, gL_sL, gL_sL, if_neg (by omega), if_neg (by omega), if_neg (by omega), if_neg (by omega)], ?_, ?_, ?_, ?_⟩
      · simp [gL_sL, own_np, a, r]
      · simp [gL_sL, own_ns, a, r]
      · simp [gL_sL, own_nr, a, r]
      · simp [gL_sL, own_nq, a, r]
  refine ⟨ib, fun x ex => ?_⟩
  by_cases r : gI s 5 (ix i) = 1
  · rw [if_pos r] at ex; subst ex
    refine ⟨fun q => absurd q (by decide), fun _ => ⟨ib, fun a => ⟨ib, nz a, run r _ ?_⟩, fun a => run r _ ?_⟩⟩
    · rw [own_sd, if_pos ⟨r, cmpL_gt.mp a⟩]
    · rw [own_sd, if_neg (fun q => a (cmpL_gt.mpr q.2))]
  · rw [if_neg r] at ex; subst ex
    exact ⟨fun _ => stop r, fun q => absurd rfl q⟩
/-- what epochStart leaves, from the refreshed state t -/
def own_E (t : St) (m : Int64) (w : St) : Prop := (∀ c j, c ≠ 9 → (c = 0 → j ≠ 42) → gI w c j = gI t c j) ∧ gI w 0 42 = gI t 0 42 + 1 ∧ (∀ j, j < 16 → gI w 9 j = 0) ∧ (∀ c j, c ≠ 12 → c ≠ 13 → c ≠ 14 → c ≠ 15 → gL w c j = gL t c j) ∧ (∀ i, inb 16 i → i < gI t 0 41 → gL w 12 (ix i) = own_np t i m ∧ gL w 13 (ix i) = own_ns t i ∧ gL w 14 (ix i) = own_nr t i m ∧ gL w 15 (ix i) = own_nq t i) ∧ (∀ i, inb 16 i → ¬ i < gI t 0 41 → gL w 12 (ix i) = gL t 12 (ix i) ∧ gL w 13 (ix i) = gL t 13 (ix i) ∧ gL w 14 (ix i) = gL t 14 (ix i) ∧ gL w 15 (ix i) = gL t 15 (ix i))
/-- the least pass of the snapshot -/
def own_M (t : St) (m : Int64) : Prop := (∀ i, inb 16 i → gI t 21 (ix i) ≠ 0 → m.toInt ≤ (gL t 12 (ix i)).toInt) ∧ ((∃ i, inb 16 i ∧ gI t 21 (ix i) ≠ 0 ∧ gL t 12 (ix i) = m) ∨ ((∀ i, inb 16 i → gI t 21 (ix i) = 0) ∧ m = 0))
theorem own_27 (s : St) (Q : St → Prop) (h : ∀ t m w, own_R s t → own_M t m → own_E t m w → Q w) : calV PP 27 21 [.ref 0] s Q := by
  apply c27_in
  refine own_19 s _ fun t ht => ?_
  refine own_26 t _ fun m hm1 hm2 => ?_
  replace h := fun w => h t m w ht ⟨hm1, hm2⟩
  refine loop_up (F := fun i => ∀ u, (∀ c j, gI u c j = gI t c j) → (∀ c j, c ≠ 12 → c ≠ 13 → c ≠ 14 → c ≠ 15 → gL u c j = gL t c j) → (∀ k : Int32, 0 ≤ k.toInt → k.toInt < i.toInt → k < gI t 0 41 → gL u 12 (ix k) = own_np t k m ∧ gL u 13 (ix k) = own_ns t k ∧ gL u 14 (ix k) = own_nr t k m ∧ gL u 15 (ix k) = own_nq t k) → (∀ k, inb 16 k → (i.toInt ≤ k.toInt ∨ ¬ k < gI t 0 41) → gL u 12 (ix k) = gL t 12 (ix k) ∧ gL u 13 (ix k) = gL t 13 (ix k) ∧ gL u 14 (ix k) = gL t 14 (ix k) ∧ gL u 15 (ix k) = gL t 15 (ix k)) → wpcV PP 27 cm27 21 11 [some (.ref 0), some (.long m), none, some (.int i)] [] u Q) 16 (by decide) (fun i h0 h1 e ih u ui ul ud uk => ?_) (fun i hi u ui ul ud uk => ?_) 0 (by decide) (by decide) t (fun _ _ => rfl) (fun _ _ _ _ _ _ => rfl) (fun k a b => absurd b (by simp; omega)) (fun _ _ _ => ⟨rfl, rfl, rfl, rfl⟩)
  · have ib : inb 16 i := ⟨h0, h1⟩
    refine c27_11 _ _ _ _ ⟨fun _ => ⟨fun a => ?_, fun a => ?_⟩, fun q => absurd (by rw [i32_lt]; exact h1) q⟩
    · rw [ui] at a
      refine own_28 u i m ib _ fun v hv => ?_
      obtain ⟨v0, v1, v12, v13, v14, v15⟩ := hv
      obtain ⟨k12, k13, k14, k15⟩ := uk i ib (Or.inl (Int.le_refl _))
      have k20 := ul 20 (ix i) (by decide) (by decide) (by decide) (by decide)
      refine c27_31 _ _ _ _ (ih _ (fun c j => by rw [v0, ui]) (fun c j a b c d => by rw [v1 _ _ (Or.inr ⟨a, b, c, d⟩), ul _ _ a b c d]) (fun k k0 k1 k2 => ?_) (fun k kb kc => ?_))
      · by_cases q : k = i
        · subst q
          have esd : own_sd u k = own_sd t k := by simp only [own_sd, ui, k20]
          refine ⟨?_, ?_, ?_, ?_⟩
          · rw [v12]; simp only [own_np, ui, k12, k13, k14, k15, esd]
          · rw [v13]; simp only [own_ns, ui, k12, k13, k14, k15, esd]
          · rw [v14]; simp only [own_nr, ui, k12, k13, k14, k15]
          · rw [v15]; simp only [own_nq, ui, k12, k13, k14, k15]
        · have ne : ix k ≠ ix i := fun z => q ((ix_inj k0 h0).mp z)
          rw [v1 12 _ (Or.inl ne), v1 13 _ (Or.inl ne), v1 14 _ (Or.inl ne), v1 15 _ (Or.inl ne)]
          exact ud k k0 (by rw [i32_eq] at q; omega) k2
      · have ne : ix k ≠ ix i := fun z => by
          have q := (ix_inj kb.1 h0).mp z
          subst q
          rcases kc with kc | kc
          · omega
          · exact kc a
        rw [v1 12 _ (Or.inl ne), v1 13 _ (Or.inl ne), v1 14 _ (Or.inl ne), v1 15 _ (Or.inl ne)]
        exact uk k kb (kc.imp (fun q => by omega) id)
    · rw [ui] at a
      refine c27_31 _ _ _ _ (ih _ ui ul (fun k k0 k1 k2 => ud k k0 ?_ k2) (fun k kb kc => uk k kb (kc.imp (fun q => by omega) id)))
      by_cases q : k = i
      · subst q; exact absurd k2 a
      · rw [i32_eq] at q; omega
  · refine c27_11 _ _ _ _ ⟨fun q => absurd q (by rw [i32_lt, hi]; decide), fun _ => ?_⟩
    replace ud := fun k (kb : inb 16 k) => ud k kb.1 (by have := kb.2; omega)
    replace uk := fun k (kb : inb 16 k) q => uk k kb (Or.inr q)
    clear hi
    refine loop_up (F := fun i => ∀ w, (∀ c j, c ≠ 9 → gI w c j = gI u c j) → (∀ c j, gL w c j = gL u c j) → (∀ j, j < ix i → gI w 9 j = 0) → wpcV PP 27 cm27 21 39 [some (.ref 0), none, none, some (.int i)] [] w Q) 16 (by decide) (fun i h0 h1 e ih w w1 w2 w9 => ?_) (fun i hi w w1 w2 w9 => ?_) 0 (by decide) (by decide) u (fun _ _ _ => rfl) (fun _ _ => rfl) (fun j q => absurd q (by simp [ix]))
    · have ki := ix_int h0
      have kj := ix_int (i := i + 1) (by omega)
      refine c27_39 _ _ _ ⟨fun _ => ⟨⟨h0, h1⟩, ih _ (fun c j q => by rw [gI_sI, if_neg (by omega)]; exact w1 c j q) (fun c j => by rw [gL_sI]; exact w2 c j) fun j hj => ?_⟩, fun q => absurd (by rw [i32_lt]; exact h1) q⟩
      rw [gI_sI]
      by_cases q : j = ix i
      · rw [if_pos ⟨rfl, q⟩]
      · rw [if_neg (fun z => q z.2)]; exact w9 j (by omega)
    · have : ix i = 16 := by have := ix_int (i := i) (by omega); omega
      rw [this] at w9
      refine c27_39 _ _ _ ⟨fun q => absurd q (by rw [i32_lt, hi]; decide), fun _ => h _ ⟨fun c j c9 cj => ?_, ?_, fun j hj => ?_, fun c j a b d f => ?_, fun k kb kc => ?_, fun k kb kc => ?_⟩⟩
      · rw [gI_sI, if_neg (by omega), w1 c j c9, ui]
      · rw [gI_sI, if_pos ⟨rfl, rfl⟩, w1 0 42 (by decide), ui]
      · rw [gI_sI, if_neg (by omega), w9 j hj]
      · rw [gL_sI, w2, ul c j a b d f]
      · simp only [gL_sI, w2]; exact ud k kb kc
      · simp only [gL_sI, w2]; exact uk k kb kc

/-! the derived values are a function of the state; their ranges -/
theorem own_64a {x y : Int64} (h1 : -9223372036854775808 ≤ x.toInt + y.toInt) (h2 : x.toInt + y.toInt ≤ 9223372036854775807) : (x + y).toInt = x.toInt + y.toInt := by
  rw [Int64.toInt_add]; exact Int.bmod_eq_of_le (by omega) (by omega)
theorem own_64s {x y : Int64} (h1 : -9223372036854775808 ≤ x.toInt - y.toInt) (h2 : x.toInt - y.toInt ≤ 9223372036854775807) : (x - y).toInt = x.toInt - y.toInt := by
  rw [Int64.toInt_sub]; exact Int.bmod_eq_of_le (by omega) (by omega)
theorem own_64m {x y : Int64} (h1 : -9223372036854775808 ≤ x.toInt * y.toInt) (h2 : x.toInt * y.toInt ≤ 9223372036854775807) : (x * y).toInt = x.toInt * y.toInt := by
  rw [Int64.toInt_mul]; exact Int.bmod_eq_of_le (by omega) (by omega)
theorem own_64d {x y : Int64} (hx : 0 ≤ x.toInt) (hy : 0 < y.toInt) : (x / y).toInt = x.toInt / y.toInt := by
  have r : x.toInt ≤ 9223372036854775807 := by have := Int64.toInt_lt x; omega
  rw [Int64.toInt_div, Int.tdiv_eq_ediv_of_nonneg hx]
  have h1 := Int.ediv_nonneg hx (Int.le_of_lt hy)
  have h2 := Int.ediv_le_self y.toInt hx
  exact Int.bmod_eq_of_le (by omega) (by omega)
theorem own_64e {x y : Int64} : x = y ↔ x.toInt = y.toInt := Int64.toInt_inj.symm
theorem own_64l {x y : Int64} : x < y ↔ x.toInt < y.toInt := Int64.lt_iff_toInt_lt
/-- the product, shared out: a * w / b with a at most b -/
theorem own_64q {a w b : Int64} {A W : Int} (ha : 0 ≤ a.toInt ∧ a.toInt ≤ A) (hw : 0 ≤ w.toInt ∧ w.toInt ≤ W) (hb : 0 < b.toInt) (hab : a.toInt ≤ b.toInt) (hA : A ≤ 1000000000) (hW : W ≤ 1000000000) : (a * w / b).toInt = a.toInt * w.toInt / b.toInt ∧ 0 ≤ a.toInt * w.toInt / b.toInt ∧ a.toInt * w.toInt / b.toInt ≤ w.toInt := by
  have p0 : 0 ≤ a.toInt * w.toInt := Int.mul_nonneg ha.1 hw.1
  have p1 : a.toInt * w.toInt ≤ 1000000000 * 1000000000 := Int.mul_le_mul (by omega) (by omega) hw.1 (by decide)
  have m : (a * w).toInt = a.toInt * w.toInt := own_64m (by omega) (by omega)
  refine ⟨by rw [own_64d (by omega) hb, m], Int.ediv_nonneg p0 (by omega), ?_⟩
  apply Int.le_of_lt_add_one
  apply Int.ediv_lt_of_lt_mul hb
  have q : a.toInt * w.toInt ≤ b.toInt * w.toInt := Int.mul_le_mul_of_nonneg_right hab hw.1
  have e : (w.toInt + 1) * b.toInt = b.toInt * w.toInt + b.toInt := by rw [Int.add_mul, Int.mul_comm]; omega
  omega
def own_X (t : St) : Prop := (∀ i, inb 16 i → gI t 16 (ix i) = own_Ho t i ∧ gI t 17 (ix i) = own_A t i) ∧ (∀ c, inb 8 c → gL t 3 (ix c) = own_I t c) ∧ gL t 4 0 = 0 ∧ (∀ c, inb 8 c → 1 ≤ c.toInt → gL t 4 (ix c) = own_W t c) ∧ (∀ j, j < 16 → gL t 18 j = own_V t j) ∧ (∀ i, inb 16 i → gL t 19 (ix i) = own_Bs t i 16 ∧ gL t 20 (ix i) = own_T t i)
/-- s and t stand alike in what the derived values are made of -/
def own_ag (s t : St) : Prop := (gI t 0 40 = gI s 0 40) ∧ (gI t 0 41 = gI s 0 41) ∧ (∀ j, gI t 1 j = gI s 1 j) ∧ (∀ j, gI t 2 j = gI s 2 j) ∧ (∀ j, gI t 5 j = gI s 5 j) ∧ (∀ j, gI t 6 j = gI s 6 j) ∧ (∀ j, gI t 7 j = gI s 7 j) ∧ (∀ j, gI t 8 j = gI s 8 j) ∧ (∀ j, gL t 11 j = gL s 11 j)
theorem own_ag.n {s t : St} (h : own_ag s t) : gI t 0 40 = gI s 0 40 := h.1
theorem own_ag.m {s t : St} (h : own_ag s t) : gI t 0 41 = gI s 0 41 := h.2.1
theorem own_ag.f1 {s t : St} (h : own_ag s t) : ∀ j, gI t 1 j = gI s 1 j := h.2.2.1
theorem own_ag.f2 {s t : St} (h : own_ag s t) : ∀ j, gI t 2 j = gI s 2 j := h.2.2.2.1
theorem own_ag.f5 {s t : St} (h : own_ag s t) : ∀ j, gI t 5 j = gI s 5 j := h.2.2.2.2.1
theorem own_ag.f6 {s t : St} (h : own_ag s t) : ∀ j, gI t 6 j = gI s 6 j := h.2.2.2.2.2.1
theorem own_ag.f7 {s t : St} (h : own_ag s t) : ∀ j, gI t 7 j = gI s 7 j := h.2.2.2.2.2.2.1
theorem own_ag.f8 {s t : St} (h : own_ag s t) : ∀ j, gI t 8 j = gI s 8 j := h.2.2.2.2.2.2.2.1
theorem own_ag.l11 {s t : St} (h : own_ag s t) : ∀ j, gL t 11 j = gL s 11 j := h.2.2.2.2.2.2.2.2
theorem own_hw_ag {s t : St} (a : own_ag s t) : ∀ n x, own_hw t n x = own_hw s n x
  | 0, _ => rfl
  | n + 1, x => by simp only [own_hw, a.f5, a.f8, a.m, own_hw_ag a n]
theorem own_sA_q {s t : St} (h6 : ∀ j, gI t 6 j = gI s 6 j) (h7 : ∀ j, gI t 7 j = gI s 7 j) (c : Int32) : ∀ n, (∀ j, j < n → gI t 17 j = gI s 17 j) → own_sA t c n = own_sA s c n
  | 0, _ => rfl
  | n + 1, h => by simp only [own_sA, h6, h7, h n (by omega), own_sA_q h6 h7 c n fun j hj => h j (by omega)]
theorem own_Bs_q {s t : St} (k : Int32) : ∀ n, (∀ j, j < n → gI t 16 j = gI s 16 j ∧ gI t 17 j = gI s 17 j ∧ gL t 18 j = gL s 18 j) → own_Bs t k n = own_Bs s k n
  | 0, _ => rfl
  | n + 1, h => by
    obtain ⟨a, b, c⟩ := h n (by omega)
    simp only [own_Bs, a, b, c, own_Bs_q k n fun j hj => h j (by omega)]
def own_dq (s t : St) : Prop := (∀ j, j < 16 → gI t 16 j = gI s 16 j) ∧ (∀ j, j < 16 → gI t 17 j = gI s 17 j) ∧ (∀ j, j < 8 → gL t 3 j = gL s 3 j) ∧ (∀ j, j < 8 → gL t 4 j = gL s 4 j) ∧ (∀ j, j < 16 → gL t 18 j = gL s 18 j) ∧ (∀ j, j < 16 → gL t 19 j = gL s 19 j) ∧ (∀ j, j < 16 → gL t 20 j = gL s 20 j)
theorem own_dq.d16 {s t : St} (h : own_dq s t) : ∀ j, j < 16 → gI t 16 j = gI s 16 j := h.1
theorem own_dq.d17 {s t : St} (h : own_dq s t) : ∀ j, j < 16 → gI t 17 j = gI s 17 j := h.2.1
theorem own_dq.d3 {s t : St} (h : own_dq s t) : ∀ j, j < 8 → gL t 3 j = gL s 3 j := h.2.2.1
theorem own_dq.d4 {s t : St} (h : own_dq s t) : ∀ j, j < 8 → gL t 4 j = gL s 4 j := h.2.2.2.1
theorem own_dq.d18 {s t : St} (h : own_dq s t) : ∀ j, j < 16 → gL t 18 j = gL s 18 j := h.2.2.2.2.1
theorem own_dq.d19 {s t : St} (h : own_dq s t) : ∀ j, j < 16 → gL t 19 j = gL s 19 j := h.2.2.2.2.2.1
theorem own_dq.d20 {s t : St} (h : own_dq s t) : ∀ j, j < 16 → gL t 20 j = gL s 20 j := h.2.2.2.2.2.2
theorem own_uq {s t : St} (hs : own_X s) (ht : own_X t) (a : own_ag s t) : own_dq s t := by
  obtain ⟨sA, sI, s4, sW, sV, sT⟩ := hs
  obtain ⟨tA, tI, t4, tW, tV, tT⟩ := ht
  have hw := own_hw_ag a
  have d1 : ∀ j, j < 16 → gI t 16 j = gI s 16 j ∧ gI t 17 j = gI s 17 j := by
    intro j hj
    obtain ⟨i, i0, i1, rfl⟩ := own_of hj (by decide)
    have p := sA i ⟨i0, i1⟩
    have q := tA i ⟨i0, i1⟩
    rw [p.1, p.2, q.1, q.2]
    simp only [own_Ho, own_A, hw, a.m, a.f5, and_self]
  have d3 : ∀ d j, j < 8 → 8 ≤ j + d → gL t 3 j = gL s 3 j := by
    intro d
    induction d with
    | zero => intro j h1 h2; omega
    | succ d ih =>
      intro j h1 h2
      obtain ⟨i, i0, i1, rfl⟩ := own_of h1 (by decide)
      rw [sI i ⟨i0, i1⟩, tI i ⟨i0, i1⟩, own_I, own_I, a.n, own_sA_q a.f6 a.f7 i 16 fun j hj => (d1 j hj).2, own_sB_eq (s := s) (m := 7 - ix i) a.n a.f1 a.f2 (fun j j1 j2 => ih j (by omega) (by omega)) i _ _ (Nat.le_refl _)]
  have d3 : ∀ j, j < 8 → gL t 3 j = gL s 3 j := fun j hj => d3 8 j hj (by omega)
  have d4 : ∀ n j, j < n → j < 8 → gL t 4 j = gL s 4 j := by
    intro n
    induction n with
    | zero => intro j h1; omega
    | succ n ih =>
      intro j h1 h2
      by_cases z : j = 0
      · rw [z, s4, t4]
      · obtain ⟨i, i0, i1, rfl⟩ := own_of h2 (by decide)
        have k := ix_int i0
        rw [sW i ⟨i0, i1⟩ (by omega), tW i ⟨i0, i1⟩ (by omega), own_W, own_W, a.n, a.f1, a.f2, d3 _ h2]
        by_cases p : 0 < gI s 1 (ix i) ∧ gI s 1 (ix i) < i
        · have p' := p
          rw [i32_lt, i32_lt] at p'
          have k2 := ix_int (i := gI s 1 (ix i)) (by have := p'.1; simp at this; omega)
          rw [d3 (ix (gI s 1 (ix i))) (by omega), ih (ix (gI s 1 (ix i))) (by omega) (by omega)]
        · rw [if_neg (c := 0 < gI s 1 (ix i) ∧ gI s 1 (ix i) < i ∧ 0 < gL t 3 (ix (gI s 1 (ix i)))) (fun q => p ⟨q.1, q.2.1⟩), if_neg (c := 0 < gI s 1 (ix i) ∧ gI s 1 (ix i) < i ∧ 0 < gL s 3 (ix (gI s 1 (ix i)))) (fun q => p ⟨q.1, q.2.1⟩)]
  have d4 : ∀ j, j < 8 → gL t 4 j = gL s 4 j := fun j hj => d4 (j + 1) j (by omega) hj
  have d18 : ∀ j, j < 16 → gL t 18 j = gL s 18 j := by
    intro j hj
    rw [sV j hj, tV j hj, own_V, own_V, (d1 j hj).2, a.f6, a.f7]
    by_cases p : 0 < gI s 6 j ∧ gI s 6 j < 8
    · have p' := p
      rw [i32_lt, i32_lt] at p'
      simp at p'
      have k2 := ix_int (i := gI s 6 j) (by omega)
      rw [d3 (ix (gI s 6 j)) (by omega), d4 (ix (gI s 6 j)) (by omega)]
    · rw [if_neg (c := 0 < gI s 6 j ∧ gI s 6 j < 8 ∧ 0 < gL t 3 (ix (gI s 6 j))) (fun q => p ⟨q.1, q.2.1⟩), if_neg (c := 0 < gI s 6 j ∧ gI s 6 j < 8 ∧ 0 < gL s 3 (ix (gI s 6 j))) (fun q => p ⟨q.1, q.2.1⟩)]
  have dB : ∀ i, own_Bs t i 16 = own_Bs s i 16 := fun i => own_Bs_q i 16 fun j hj => ⟨(d1 j hj).1, (d1 j hj).2, d18 j hj⟩
  refine ⟨fun j hj => (d1 j hj).1, fun j hj => (d1 j hj).2, d3, d4, d18, fun j hj => ?_, fun j hj => ?_⟩ <;> obtain ⟨i, i0, i1, rfl⟩ := own_of hj (by decide)
  · rw [(sT i ⟨i0, i1⟩).1, (tT i ⟨i0, i1⟩).1, dB]
  · rw [(sT i ⟨i0, i1⟩).2, (tT i ⟨i0, i1⟩).2, own_T, own_T, dB, a.m, a.f5, a.l11]
/-- the ranges -/
def own_Gd (s : St) : Prop := (1 ≤ (gI s 0 39).toInt ∧ (gI s 0 39).toInt ≤ 16) ∧ (1 ≤ (gI s 0 40).toInt ∧ (gI s 0 40).toInt ≤ 8) ∧ (0 ≤ (gI s 0 41).toInt ∧ (gI s 0 41).toInt ≤ 16) ∧ (∀ j : Nat, (j : Int) < (gI s 0 41).toInt → gI s 5 j = 1 ∨ gI s 5 j = 2 ∨ gI s 5 j = 3) ∧ (∀ j : Nat, (j : Int) < (gI s 0 41).toInt → 0 ≤ (gI s 6 j).toInt ∧ (gI s 6 j).toInt < (gI s 0 40).toInt) ∧ (∀ j : Nat, (j : Int) < (gI s 0 41).toInt → 1 ≤ (gI s 7 j).toInt ∧ (gI s 7 j).toInt ≤ 1000) ∧ (∀ j : Nat, (j : Int) < (gI s 0 41).toInt → gI s 5 j = 1 → gI s 8 j = -1) ∧ (∀ j : Nat, (j : Int) < (gI s 0 41).toInt → 0 ≤ (gL s 11 j).toInt ∧ (gL s 11 j).toInt ≤ 240000) ∧ (∀ c : Nat, 1 ≤ c → (c : Int) < (gI s 0 40).toInt → 0 ≤ (gI s 1 c).toInt ∧ (gI s 1 c).toInt < c) ∧ (∀ c : Nat, 1 ≤ c → (c : Int) < (gI s 0 40).toInt → 1 ≤ (gI s 2 c).toInt ∧ (gI s 2 c).toInt ≤ 1000)
theorem own_Gd.q {s : St} (h : own_Gd s) : 1 ≤ (gI s 0 39).toInt ∧ (gI s 0 39).toInt ≤ 16 := h.1
theorem own_Gd.n {s : St} (h : own_Gd s) : 1 ≤ (gI s 0 40).toInt ∧ (gI s 0 40).toInt ≤ 8 := h.2.1
theorem own_Gd.m {s : St} (h : own_Gd s) : 0 ≤ (gI s 0 41).toInt ∧ (gI s 0 41).toInt ≤ 16 := h.2.2.1
theorem own_Gd.st {s : St} (h : own_Gd s) : ∀ j : Nat, (j : Int) < (gI s 0 41).toInt → gI s 5 j = 1 ∨ gI s 5 j = 2 ∨ gI s 5 j = 3 := h.2.2.2.1
theorem own_Gd.cu {s : St} (h : own_Gd s) : ∀ j : Nat, (j : Int) < (gI s 0 41).toInt → 0 ≤ (gI s 6 j).toInt ∧ (gI s 6 j).toInt < (gI s 0 40).toInt := h.2.2.2.2.1
theorem own_Gd.am {s : St} (h : own_Gd s) : ∀ j : Nat, (j : Int) < (gI s 0 41).toInt → 1 ≤ (gI s 7 j).toInt ∧ (gI s 7 j).toInt ≤ 1000 := h.2.2.2.2.2.1
theorem own_Gd.li {s : St} (h : own_Gd s) : ∀ j : Nat, (j : Int) < (gI s 0 41).toInt → gI s 5 j = 1 → gI s 8 j = -1 := h.2.2.2.2.2.2.1
theorem own_Gd.co {s : St} (h : own_Gd s) : ∀ j : Nat, (j : Int) < (gI s 0 41).toInt → 0 ≤ (gL s 11 j).toInt ∧ (gL s 11 j).toInt ≤ 240000 := h.2.2.2.2.2.2.2.1
theorem own_Gd.pa {s : St} (h : own_Gd s) : ∀ c : Nat, 1 ≤ c → (c : Int) < (gI s 0 40).toInt → 0 ≤ (gI s 1 c).toInt ∧ (gI s 1 c).toInt < c := h.2.2.2.2.2.2.2.2.1
theorem own_Gd.ba {s : St} (h : own_Gd s) : ∀ c : Nat, 1 ≤ c → (c : Int) < (gI s 0 40).toInt → 1 ≤ (gI s 2 c).toInt ∧ (gI s 2 c).toInt ≤ 1000 := h.2.2.2.2.2.2.2.2.2
theorem own_b17 {t : St} (h : own_X t) (j : Nat) (hj : j < 16) (p : gI t 17 j ≠ 0) : (j : Int) < (gI t 0 41).toInt := by
  obtain ⟨i, i0, i1, rfl⟩ := own_of hj (by decide)
  have q := (h.1 i ⟨i0, i1⟩).2
  have k := ix_int i0
  rw [own_A] at q
  by_cases l : i < gI t 0 41
  · rw [i32_lt] at l; omega
  · rw [if_neg l] at q; exact absurd q p
theorem own_bsA {t : St} (g : own_Gd t) (h : own_X t) (c : Int32) : ∀ n, n ≤ 16 → 0 ≤ (own_sA t c n).toInt ∧ (own_sA t c n).toInt ≤ 1000 * n ∧ (∀ j, j < n → gI t 17 j ≠ 0 → gI t 6 j = c → (gI t 7 j).toInt ≤ (own_sA t c n).toInt)
  | 0, _ => ⟨by simp [own_sA], by simp [own_sA], fun j hj => absurd hj (by omega)⟩
  | n + 1, hn => by
    obtain ⟨i1, i2, i3⟩ := own_bsA g h c n (by omega)
    unfold own_sA
    by_cases p : gI t 17 n = 0
    · rw [if_pos p]
      refine ⟨i1, by omega, fun j hj a b => ?_⟩
      by_cases e : j = n
      · rw [e] at a; exact absurd p a
      · exact i3 j (by omega) a b
    · rw [if_neg p]
      have am := g.am n (own_b17 h n (by omega) p)
      by_cases r : gI t 6 n = c
      · rw [if_pos r]
        have e : (own_sA t c n + Int32.toInt64 (gI t 7 n)).toInt = (own_sA t c n).toInt + (gI t 7 n).toInt := by
          rw [own_64a] <;> rw [Int32.toInt_toInt64] <;> omega
        rw [e]
        refine ⟨by omega, by omega, fun j hj a b => ?_⟩
        by_cases e : j = n
        · rw [e]; omega
        · have := i3 j (by omega) a b; omega
      · rw [if_neg r]
        refine ⟨i1, by omega, fun j hj a b => ?_⟩
        by_cases e : j = n
        · rw [e] at b; exact absurd b r
        · exact i3 j (by omega) a b
theorem own_bsB {t : St} (g : own_Gd t) (c : Int32) (b : Nat) (hb : 1 ≤ b) (x : Int64) (hx : 0 ≤ x.toInt ∧ x.toInt ≤ 16000) : ∀ n, b + n ≤ 8 → x.toInt ≤ (own_sB t c b x n).toInt ∧ (own_sB t c b x n).toInt ≤ 16000 + 1000 * n ∧ (∀ j, b ≤ j → j < b + n → (j : Int) < (gI t 0 40).toInt → gI t 1 j = c → 0 < gL t 3 j → (gI t 2 j).toInt ≤ (own_sB t c b x n).toInt)
  | 0, _ => ⟨by simp [own_sB], by simp [own_sB]; omega, fun j h1 h2 => absurd h2 (by omega)⟩
  | n + 1, hn => by
    obtain ⟨i1, i2, i3⟩ := own_bsB g c b hb x hx n (by omega)
    unfold own_sB
    by_cases p : ((b + n : Nat) : Int) < (gI t 0 40).toInt ∧ gI t 1 (b + n) = c ∧ 0 < gL t 3 (b + n)
    · rw [if_pos p]
      have ba := g.ba (b + n) (by omega) p.1
      have e : (own_sB t c b x n + Int32.toInt64 (gI t 2 (b + n))).toInt = (own_sB t c b x n).toInt + (gI t 2 (b + n)).toInt := by
        rw [own_64a] <;> rw [Int32.toInt_toInt64] <;> omega
      rw [e]
      refine ⟨by omega, by omega, fun j h1 h2 a q r => ?_⟩
      by_cases e : j = b + n
      · rw [e]; omega
      · have := i3 j h1 (by omega) a q r; omega
    · rw [if_neg p]
      refine ⟨i1, by omega, fun j h1 h2 a q r => ?_⟩
      by_cases e : j = b + n
      · rw [e] at a q r; exact absurd ⟨a, q, r⟩ p
      · exact i3 j h1 (by omega) a q r
/-- issued -/
theorem own_b3 {t : St} (g : own_Gd t) (h : own_X t) (c : Nat) (hc : c < 8) : 0 ≤ (gL t 3 c).toInt ∧ (gL t 3 c).toInt ≤ 23000 ∧ ((c : Int) < (gI t 0 40).toInt → (∀ j, j < 16 → gI t 17 j ≠ 0 → (gI t 6 j).toInt = c → (gI t 7 j).toInt ≤ (gL t 3 c).toInt) ∧ (∀ j, c < j → j < 8 → (j : Int) < (gI t 0 40).toInt → (gI t 1 j).toInt = c → 0 < (gL t 3 j).toInt → (gI t 2 j).toInt ≤ (gL t 3 c).toInt)) ∧ (¬ (c : Int) < (gI t 0 40).toInt → gL t 3 c = 0) := by
  obtain ⟨i, i0, i1, rfl⟩ := own_of hc (by decide)
  have k := ix_int i0
  rw [h.2.1 i ⟨i0, i1⟩, own_I]
  by_cases p : i < gI t 0 40
  · rw [if_pos p]
    rw [i32_lt] at p
    obtain ⟨a1, a2, a3⟩ := own_bsA g h i 16 (by omega)
    obtain ⟨b1, b2, b3⟩ := own_bsB g i (ix i + 1) (by omega) (own_sA t i 16) ⟨a1, by omega⟩ (7 - ix i) (by omega)
    refine ⟨by omega, by omega, fun _ => ⟨fun j hj x y => ?_, fun j h1 h2 x y z => b3 j (by omega) (by omega) x (by rw [i32_eq]; omega) (by rw [own_64l]; simpa using z)⟩, fun q => absurd (by omega) q⟩
    have := a3 j hj x (by rw [i32_eq]; omega)
    omega
  · rw [if_neg p]
    rw [i32_lt] at p
    exact ⟨by simp, by simp, fun q => absurd q (by omega), fun _ => rfl⟩
/-- worth -/
theorem own_b4 {t : St} (g : own_Gd t) (h : own_X t) : ∀ n c : Nat, c < n → c < 8 → 0 ≤ (gL t 4 c).toInt ∧ (gL t 4 c).toInt ≤ 1000
  | 0, c, h1, _ => absurd h1 (by omega)
  | n + 1, c, h1, hc => by
    by_cases z : c = 0
    · rw [z, h.2.2.1]; simp
    obtain ⟨i, i0, i1, rfl⟩ := own_of hc (by decide)
    have k := ix_int i0
    rw [h.2.2.2.1 i ⟨i0, i1⟩ (by omega), own_W]
    by_cases p : i < gI t 0 40 ∧ gL t 3 (ix i) ≠ 0
    · rw [if_pos p]
      have p1 := p.1
      rw [i32_lt] at p1
      have ba := g.ba (ix i) (by omega) (by omega)
      by_cases r : gI t 1 (ix i) = 0
      · rw [if_pos r, Int32.toInt_toInt64]; omega
      · rw [if_neg r]
        by_cases u : 0 < gI t 1 (ix i) ∧ gI t 1 (ix i) < i ∧ 0 < gL t 3 (ix (gI t 1 (ix i)))
        · rw [if_pos u]
          obtain ⟨u1, u2, u3⟩ := u
          rw [i32_lt] at u1 u2
          rw [own_64l] at u3
          simp at u1 u3
          have k2 := ix_int (i := gI t 1 (ix i)) (by omega)
          have w := own_b4 g h n (ix (gI t 1 (ix i))) (by omega) (by omega)
          have b0 := (own_b3 g h (ix i) hc).1
          have b := ((own_b3 g h (ix (gI t 1 (ix i))) (by omega)).2.2.1 (by omega)).2 (ix i) (by omega) hc (by omega) (by omega) (by have := p.2; rw [ne_eq, own_64e] at this; simp at this; omega)
          have f := own_64q (a := Int32.toInt64 (gI t 2 (ix i))) (A := 1000) (W := 1000) (by rw [Int32.toInt_toInt64]; omega) w u3 (by rw [Int32.toInt_toInt64]; omega) (by decide) (by decide)
          rw [f.1]; omega
        · rw [if_neg u]; simp
    · rw [if_neg p]; simp
/-- value -/
theorem own_b18 {t : St} (g : own_Gd t) (h : own_X t) (j : Nat) (hj : j < 16) : 0 ≤ (gL t 18 j).toInt ∧ (gL t 18 j).toInt ≤ 1000 := by
  rw [h.2.2.2.2.1 j hj, own_V]
  by_cases p : gI t 17 j = 0
  · rw [if_pos p]; simp
  · rw [if_neg p]
    have l := own_b17 h j hj p
    have am := g.am j l
    by_cases r : gI t 6 j = 0
    · rw [if_pos r, Int32.toInt_toInt64]; omega
    · rw [if_neg r]
      by_cases u : 0 < gI t 6 j ∧ gI t 6 j < 8 ∧ 0 < gL t 3 (ix (gI t 6 j))
      · rw [if_pos u]
        obtain ⟨u1, u2, u3⟩ := u
        rw [i32_lt] at u1 u2
        rw [own_64l] at u3
        simp at u1 u2 u3
        have k2 := ix_int (i := gI t 6 j) (by omega)
        have cu := g.cu j l
        have w := own_b4 g h 8 (ix (gI t 6 j)) (by omega) (by omega)
        have b := ((own_b3 g h (ix (gI t 6 j)) (by omega)).2.2.1 (by omega)).1 j hj p (by omega)
        have f := own_64q (a := Int32.toInt64 (gI t 7 j)) (A := 1000) (W := 1000) (by rw [Int32.toInt_toInt64]; omega) w u3 (by rw [Int32.toInt_toInt64]; omega) (by decide) (by decide)
        rw [f.1]; omega
      · rw [if_neg u]; simp
theorem own_bBs {t : St} (g : own_Gd t) (h : own_X t) (k : Int32) : ∀ n, n ≤ 16 → 0 ≤ (own_Bs t k n).toInt ∧ (own_Bs t k n).toInt ≤ 1000 * n
  | 0, _ => by simp [own_Bs]
  | n + 1, hn => by
    obtain ⟨i1, i2⟩ := own_bBs g h k n (by omega)
    have v := own_b18 g h n (by omega)
    unfold own_Bs
    split
    · rw [own_64a] <;> omega
    · omega
/-- base and tickets -/
theorem own_b20 {t : St} (g : own_Gd t) (h : own_X t) (j : Nat) (hj : j < 16) : (0 ≤ (gL t 19 j).toInt ∧ (gL t 19 j).toInt ≤ 16000) ∧ ((j : Int) < (gI t 0 41).toInt → gI t 5 j = 1 → 1 ≤ (gL t 20 j).toInt ∧ (gL t 20 j).toInt ≤ 256000) := by
  obtain ⟨i, i0, i1, rfl⟩ := own_of hj (by decide)
  have k := ix_int i0
  obtain ⟨b1, b2⟩ := own_bBs g h i 16 (by omega)
  obtain ⟨e1, e2⟩ := h.2.2.2.2.2 i ⟨i0, i1⟩
  refine ⟨by rw [e1]; omega, fun l q => ?_⟩
  have co := g.co (ix i) l
  rw [e2, own_T, if_pos ⟨by rw [i32_lt]; omega, q⟩]
  have e : (own_Bs t i 16 + gL t 11 (ix i)).toInt = (own_Bs t i 16).toInt + (gL t 11 (ix i)).toInt := by rw [own_64a] <;> omega
  by_cases z : own_Bs t i 16 + gL t 11 (ix i) = 0
  · rw [if_pos z]; simp
  · rw [if_neg z]
    rw [own_64e] at z
    simp at z
    rw [← Int64.toInt_add] at z
    omega

/-! what the calls of the scheduler do -/
def own_Lv (s : St) (a : Int32) : Prop := 0 ≤ a.toInt ∧ a.toInt < (gI s 0 41).toInt ∧ a.toInt < 16 ∧ gI s 5 (ix a) ≠ 3
theorem own_13 (s : St) (a : Int32) (Q : Int32 → St → Prop) (h0 : ¬ (1 ≤ a.toInt ∧ a.toInt ≤ 1000) → Q 0 s) (h1 : 1 ≤ a.toInt ∧ a.toInt ≤ 1000 → Q 1 s) : calI PP 13 21 [.ref 0, .int a] s Q := by
  apply c13_in
  refine ⟨fun p => h0 ?_, fun p => ⟨fun q => h0 ?_, fun q => h1 ?_⟩⟩ <;> (simp only [i32_lt] at *; simp at *; omega)
def own_sn (s u : St) : Prop := own_fr (fun c => c = 21) s u ∧ (∀ i, inb 16 i → gI u 21 (ix i) = if i < gI s 0 41 ∧ gI s 5 (ix i) = 1 then 1 else 0)
def own_Ep (V W : St) : Prop := ∃ T m, own_R V T ∧ own_M T m ∧ own_E T m W
def own_P2 (s : St) (a b v : Int32) (W : St) : Prop :=
  (¬ (0 ≤ a.toInt ∧ a.toInt < (gI s 0 40).toInt) ∧ v = -3 ∧ W = s) ∨
  (0 ≤ a.toInt ∧ a.toInt < (gI s 0 40).toInt ∧ ¬ (1 ≤ b.toInt ∧ b.toInt ≤ 1000) ∧ v = -2 ∧ W = s) ∨
  (0 ≤ a.toInt ∧ a.toInt < (gI s 0 40).toInt ∧ 1 ≤ b.toInt ∧ b.toInt ≤ 1000 ∧ 8 ≤ (gI s 0 40).toInt ∧ v = -5 ∧ W = s) ∨
  (0 ≤ a.toInt ∧ a.toInt < (gI s 0 40).toInt ∧ 1 ≤ b.toInt ∧ b.toInt ≤ 1000 ∧ (gI s 0 40).toInt < 8 ∧ v = gI s 0 40 ∧ W = sI (sI (sI s 1 (ix (gI s 0 40)) a) 2 (ix (gI s 0 40)) b) 0 40 (gI s 0 40 + 1))
theorem own_2 (s : St) (a b : Int32) (Q : Int32 → St → Prop) (h : ∀ v W, own_P2 s a b v W → Q v W) : calI PP 2 21 [.ref 0, .int a, .int b] s Q := by
  apply c2_in
  refine ⟨fun p => h _ _ (.inl ⟨?_, rfl, rfl⟩), fun p => ⟨fun q => own_13 s b _ (fun r => ⟨fun _ => ?_, fun z => absurd rfl z⟩) (fun r => ⟨fun z => absurd z (by decide), fun _ => ⟨fun k => ?_, fun k => ?_⟩⟩), fun q => h _ _ (.inl ⟨?_, rfl, rfl⟩)⟩⟩
  · rw [i32_lt] at p; simp at p; omega
  · rw [i32_lt] at p q; simp at p; exact h _ _ (.inr (.inl ⟨p, q, r, rfl, rfl⟩))
  · rw [i32_lt] at p q k; simp at p k
    exact ⟨⟨by omega, k⟩, ⟨by omega, k⟩, h _ _ (.inr (.inr (.inr ⟨p, q, r.1, r.2, k, rfl, rfl⟩)))⟩
  · rw [i32_lt] at p q k; simp at p k; exact h _ _ (.inr (.inr (.inl ⟨p, q, r.1, r.2, k, rfl, rfl⟩)))
  · rw [i32_lt] at p q; simp at p; omega
def own_add (u : St) (n : Nat) (a b : Int32) : St := sI (sI (sI (sL (sL (sL (sL (sL (sI (sI (sI (sI u 5 n (1 : Int32)) 6 n a) 7 n b) 8 n (-1 : Int32)) 11 n (0 : Int64)) 12 n (0 : Int64)) 13 n (0 : Int64)) 14 n (0 : Int64)) 15 n (0 : Int64)) 9 n (0 : Int32)) 10 n (0 : Int32)) 0 41 (gI u 0 41 + (1 : Int32))
def own_P3 (s : St) (a b v : Int32) (W : St) : Prop :=
  (¬ (0 ≤ a.toInt ∧ a.toInt < (gI s 0 40).toInt) ∧ v = -3 ∧ W = s) ∨
  (0 ≤ a.toInt ∧ a.toInt < (gI s 0 40).toInt ∧ ¬ (1 ≤ b.toInt ∧ b.toInt ≤ 1000) ∧ v = -2 ∧ W = s) ∨
  (0 ≤ a.toInt ∧ a.toInt < (gI s 0 40).toInt ∧ 1 ≤ b.toInt ∧ b.toInt ≤ 1000 ∧ 16 ≤ (gI s 0 41).toInt ∧ v = -5 ∧ W = s) ∨
  (0 ≤ a.toInt ∧ a.toInt < (gI s 0 40).toInt ∧ 1 ≤ b.toInt ∧ b.toInt ≤ 1000 ∧ (gI s 0 41).toInt < 16 ∧ v = gI s 0 41 ∧ ∃ u, own_sn s u ∧ own_Ep (own_add u (ix (gI s 0 41)) a b) W)
theorem own_3 (s : St) (hm : 0 ≤ (gI s 0 41).toInt) (a b : Int32) (Q : Int32 → St → Prop) (h : ∀ v W, own_P3 s a b v W → Q v W) : calI PP 3 21 [.ref 0, .int a, .int b] s Q := by
  apply c3_in
  refine ⟨fun p => h _ _ (.inl ⟨?_, rfl, rfl⟩), fun p => ⟨fun q => own_13 s b _ (fun r => ⟨fun _ => ?_, fun z => absurd rfl z⟩) (fun r => ⟨fun z => absurd z (by decide), fun _ => ⟨fun k => own_18 s _ fun u uf u21 => ?_, fun k => ?_⟩⟩), fun q => h _ _ (.inl ⟨?_, rfl, rfl⟩)⟩⟩
  · rw [i32_lt] at p; simp at p; omega
  · rw [i32_lt] at p q; simp at p; exact h _ _ (.inr (.inl ⟨p, q, r, rfl, rfl⟩))
  · rw [i32_lt] at p q k; simp at p k
    have e : gI u 0 41 = gI s 0 41 := uf.1 0 41 (by decide)
    have ib : inb 16 (gI u 0 41) := ⟨by rw [e]; exact hm, by rw [e]; exact k⟩
    refine ⟨ib, ib, ib, ib, ib, ib, ib, ib, ib, ib, ib, own_27 _ _ fun T m W hR hM hE => h _ _ (.inr (.inr (.inr ⟨p, q, r.1, r.2, k, e, u, ⟨uf, u21⟩, T, m, ?_, hM, hE⟩)))⟩
    rw [e] at hR
    rw [own_add, e]; exact hR
  · rw [i32_lt] at p q k; simp at p k; exact h _ _ (.inr (.inr (.inl ⟨p, q, r.1, r.2, k, rfl, rfl⟩)))
  · rw [i32_lt] at p q; simp at p; omega
def own_P4 (s : St) (a b v : Int32) (W : St) : Prop :=
  (¬ own_Lv s a ∧ v = -3 ∧ W = s) ∨ (own_Lv s a ∧ ¬ (1 ≤ b.toInt ∧ b.toInt ≤ 1000) ∧ v = -2 ∧ W = s) ∨
  (own_Lv s a ∧ 1 ≤ b.toInt ∧ b.toInt ≤ 1000 ∧ v = 0 ∧ ∃ u, own_sn s u ∧ own_Ep (sI u 7 (ix a) b) W)
def own_P5 (s : St) (a b v : Int32) (W : St) : Prop :=
  (¬ (1 ≤ a.toInt ∧ a.toInt < (gI s 0 40).toInt) ∧ v = -3 ∧ W = s) ∨
  (1 ≤ a.toInt ∧ a.toInt < (gI s 0 40).toInt ∧ ¬ (1 ≤ b.toInt ∧ b.toInt ≤ 1000) ∧ v = -2 ∧ W = s) ∨
  (1 ≤ a.toInt ∧ a.toInt < (gI s 0 40).toInt ∧ 1 ≤ b.toInt ∧ b.toInt ≤ 1000 ∧ v = 0 ∧ ∃ u, own_sn s u ∧ own_Ep (sI u 2 (ix a) b) W)
def own_P6 (s : St) (a b v : Int32) (W : St) : Prop :=
  (¬ own_Lv s a ∧ v = -3 ∧ W = s) ∨ (own_Lv s a ∧ gI s 5 (ix a) ≠ 1 ∧ v = -4 ∧ W = s) ∨
  (own_Lv s a ∧ gI s 5 (ix a) = 1 ∧ b ≠ -1 ∧ (¬ own_Lv s b ∨ b = a ∨ gI s 5 (ix b) ≠ 1) ∧ v = -4 ∧ W = s) ∨
  (own_Lv s a ∧ gI s 5 (ix a) = 1 ∧ (b = -1 ∨ (own_Lv s b ∧ b ≠ a ∧ gI s 5 (ix b) = 1)) ∧ v = 0 ∧ ∃ u, own_sn s u ∧ own_Ep (sL (sI (sI u 5 (ix a) 2) 8 (ix a) b) 11 (ix a) 0) W)
def own_P7 (s : St) (a v : Int32) (W : St) : Prop :=
  (¬ own_Lv s a ∧ v = -3 ∧ W = s) ∨ (own_Lv s a ∧ gI s 5 (ix a) ≠ 2 ∧ v = -4 ∧ W = s) ∨
  (own_Lv s a ∧ gI s 5 (ix a) = 2 ∧ v = 0 ∧ ∃ u, own_sn s u ∧ own_Ep (sI (sI u 5 (ix a) 1) 8 (ix a) (-1)) W)
def own_Lk (s : St) (a k : Int32) : Prop := own_Lv s k ∧ gI s 5 (ix k) = 2 ∧ gI s 8 (ix k) = a
def own_P8 (s : St) (a v : Int32) (W : St) : Prop :=
  (¬ own_Lv s a ∧ v = -3 ∧ W = s) ∨ (own_Lv s a ∧ (∃ k, own_Lk s a k) ∧ v = -6 ∧ W = s) ∨
  (own_Lv s a ∧ (∀ k, ¬ own_Lk s a k) ∧ v = 0 ∧ ∃ u, own_sn s u ∧ own_Ep (sL (sI (sI u 5 (ix a) 3) 8 (ix a) (-1)) 11 (ix a) 0) W)
/-- j is a client that may run -/
def own_Rn (s : St) (j : Nat) : Prop := j < 16 ∧ (j : Int) < (gI s 0 41).toInt ∧ gI s 5 j = 1
/-- v is the client of least pass among those below n -/
def own_Pk (s : St) (v : Int32) (n : Int) : Prop := 0 ≤ v.toInt ∧ v.toInt < n ∧ own_Rn s (ix v) ∧ ∀ j : Nat, (j : Int) < n → own_Rn s j → (gL s 12 (ix v)).toInt < (gL s 12 j).toInt ∨ ((gL s 12 (ix v)).toInt = (gL s 12 j).toInt ∧ ix v ≤ j)
theorem own_16 (s : St) (Q : Int32 → St → Prop) (h0 : (∀ j, ¬ own_Rn s j) → Q (-1) s) (h1 : ∀ v, own_Pk s v 16 → Q v s) : calI PP 16 21 [.ref 0] s Q := by
  apply c16_in
  refine loop_up (F := fun i => ∀ b : Int32, ((b = -1 ∧ ∀ j : Nat, (j : Int) < i.toInt → ¬ own_Rn s j) ∨ own_Pk s b i.toInt) → wpcI PP 16 cm16 21 4 [some (.ref 0), some (.int b), some (.int i)] [] s Q) 16 (by decide) (fun i i0 i1 e ih b hb => ?_) (fun i hi b hb => ?_) 0 (by decide) (by decide) (-1) (.inl ⟨rfl, fun j hj => absurd hj (by show ¬ _ < (0:Int); omega)⟩)
  · have k := ix_int i0
    have ib : inb 16 i := ⟨i0, i1⟩
    have keep : ¬ own_Rn s (ix i) → wpcI PP 16 cm16 21 50 [some (.ref 0), some (.int b), some (.int i)] [] s Q := fun z => c16_50 _ _ _ _ (ih b (by
      rcases hb with ⟨x, y⟩ | ⟨x1, x2, x3, y⟩
      · refine .inl ⟨x, fun j hj => ?_⟩
        by_cases q : j = ix i
        · rw [q]; exact z
        · exact y j (by omega)
      · refine .inr ⟨x1, by omega, x3, fun j hj r => ?_⟩
        by_cases q : j = ix i
        · rw [q] at r; exact absurd r z
        · exact y j (by omega) r))
    refine c16_4 _ _ _ _ ⟨fun _ => ⟨fun l => ⟨ib, fun st => ⟨fun bn => ?_, fun bn => ?_⟩, fun st => keep fun z => st z.2.2⟩, fun l => keep fun z => l (by rw [i32_lt]; have := z.2.1; omega)⟩, fun q => absurd (by rw [i32_lt]; exact i1) q⟩
    · rw [i32_lt] at l bn
      have rn : own_Rn s (ix i) := ⟨by omega, by omega, st⟩
      rcases hb with ⟨x, y⟩ | ⟨x1, x2, x3, y⟩
      · refine c16_50 _ _ _ _ (ih i (.inr ⟨i0, by omega, rn, fun j hj r => ?_⟩))
        by_cases q : j = ix i
        · rw [q]; exact .inr ⟨rfl, Nat.le_refl _⟩
        · exact absurd r (y j (by omega))
      · simp at bn; omega
    · rw [i32_lt] at l bn
      have rn : own_Rn s (ix i) := ⟨by omega, by omega, st⟩
      rcases hb with ⟨x, y⟩ | ⟨x1, x2, x3, y⟩
      · rw [x] at bn; simp at bn
      · have kb := ix_int x1
        refine ⟨ib, ⟨x1, by show _ < (16 : Int); omega⟩, fun m em => ?_⟩
        by_cases c : gL s 12 (ix i) < gL s 12 (ix b)
        · rw [if_pos (cmpL_lt.mpr c)] at em
          subst em
          rw [own_64l] at c
          refine c16_50 _ _ _ _ (ih _ (.inr ⟨i0, by omega, rn, fun j hj r => ?_⟩))
          by_cases q : j = ix m
          · rw [q]; exact .inr ⟨rfl, Nat.le_refl _⟩
          · have := y j (by omega) r; exact .inl (by omega)
        · rw [if_neg (fun z => c (cmpL_lt.mp z))] at em
          subst em
          rw [own_64l] at c
          refine c16_50 _ _ _ _ (ih _ (.inr ⟨x1, by omega, x3, fun j hj r => ?_⟩))
          by_cases q : j = ix i
          · rw [q]; omega
          · exact y j (by omega) r
  · refine c16_4 _ _ _ _ ⟨fun q => absurd q (by rw [i32_lt, hi]; decide), fun _ => ?_⟩
    rw [hi] at hb
    rcases hb with ⟨x, y⟩ | z
    · rw [x]; exact h0 fun j r => y j (by have := r.1; omega) r
    · exact h1 b z
def own_ds (s : St) (n : Nat) : St := sI (sI (sI (sL s 12 n (gL s 12 n + gL s 13 n)) 9 n (gI s 9 n + 1)) 10 n (gI s 10 n + 1)) 0 43 (gI s 0 43 + 1)
def own_nc (t : St) (n : Nat) (a : Int32) : Int64 := gL t 19 n * Int32.toInt64 (gI t 0 39 - a) / Int32.toInt64 a
def own_P9 (s : St) (a v : Int32) (W : St) : Prop :=
  (¬ (1 ≤ a.toInt ∧ a.toInt ≤ (gI s 0 39).toInt) ∧ v = -2 ∧ W = s) ∨
  (1 ≤ a.toInt ∧ a.toInt ≤ (gI s 0 39).toInt ∧ (∀ j, ¬ own_Rn s j) ∧ v = -1 ∧ W = s) ∨
  (1 ≤ a.toInt ∧ a.toInt ≤ (gI s 0 39).toInt ∧ own_Pk s v 16 ∧ ∃ t, own_R (own_ds s (ix v)) t ∧
    ((gL s 11 (ix v) = 0 ∧ own_nc t (ix v) a = 0 ∧ W = sL t 11 (ix v) (own_nc t (ix v) a)) ∨
     (¬ (gL s 11 (ix v) = 0 ∧ own_nc t (ix v) a = 0) ∧ ∃ u, own_sn (sL t 11 (ix v) (own_nc t (ix v) a)) u ∧ own_Ep u W)))
theorem own_9 (s : St) (a : Int32) (Q : Int32 → St → Prop) (h : ∀ v W, own_P9 s a v W → Q v W) : calI PP 9 21 [.ref 0, .int a] s Q := by
  apply c9_in
  refine ⟨fun p => h _ _ (.inl ⟨?_, rfl, rfl⟩), fun p => ⟨fun q => h _ _ (.inl ⟨?_, rfl, rfl⟩), fun q => ?_⟩⟩
  · rw [i32_lt] at p; simp at p; omega
  · rw [i32_lt] at q; omega
  rw [i32_lt] at p q
  simp at p
  refine own_16 s _ (fun n => ⟨fun _ => h _ _ (.inr (.inl ⟨by omega, by omega, n, rfl, rfl⟩)), fun z => absurd (by decide) z⟩) fun v pk => ⟨fun z => absurd z (by rw [i32_lt]; simp; have := pk.1; omega), fun _ => ?_⟩
  have ib : inb 16 v := ⟨pk.1, pk.2.1⟩
  refine ⟨ib, ib, ib, ib, ib, ib, ib, ib, own_19 _ _ fun t hR => ⟨ib, ?_, ib, fun z => ⟨ib, fun y => ?_, fun y => ?_⟩, fun z => ?_⟩⟩
  · rw [own_64e, Int32.toInt_toInt64]; simp; omega
  · rw [cmpL_eq] at z y
    rw [gL_sL, if_pos ⟨rfl, rfl⟩] at y
    exact h _ _ (.inr (.inr ⟨by omega, by omega, pk, t, hR, .inl ⟨z, y, rfl⟩⟩))
  · rw [cmpL_eq] at z y
    rw [gL_sL, if_pos ⟨rfl, rfl⟩] at y
    exact c9_135 _ _ _ (own_18 _ _ fun u uf u21 => own_27 _ _ fun T m W hT hM hE => h _ _ (.inr (.inr ⟨by omega, by omega, pk, t, hR, .inr ⟨fun k => y k.2, u, ⟨uf, u21⟩, T, m, hT, hM, hE⟩⟩)))
  · rw [cmpL_eq] at z
    exact c9_135 _ _ _ (own_18 _ _ fun u uf u21 => own_27 _ _ fun T m W hT hM hE => h _ _ (.inr (.inr ⟨by omega, by omega, pk, t, hR, .inr ⟨fun k => z k.1, u, ⟨uf, u21⟩, T, m, hT, hM, hE⟩⟩)))

/-! what stays true: ranges, strides, the zeros of those that do not run -/
theorem own_ag_tr {s t u : St} (h : own_ag s t) (k : own_ag t u) : own_ag s u :=
  ⟨k.n.trans h.n, k.m.trans h.m, fun j => (k.f1 j).trans (h.f1 j), fun j => (k.f2 j).trans (h.f2 j), fun j => (k.f5 j).trans (h.f5 j), fun j => (k.f6 j).trans (h.f6 j), fun j => (k.f7 j).trans (h.f7 j), fun j => (k.f8 j).trans (h.f8 j), fun j => (k.l11 j).trans (h.l11 j)⟩
theorem own_ag_sy {s t : St} (k : own_ag s t) : own_ag t s :=
  ⟨k.n.symm, k.m.symm, fun j => (k.f1 j).symm, fun j => (k.f2 j).symm, fun j => (k.f5 j).symm, fun j => (k.f6 j).symm, fun j => (k.f7 j).symm, fun j => (k.f8 j).symm, fun j => (k.l11 j).symm⟩
theorem own_ag_fr {D : Nat → Prop} {s t : St} (f : own_fr D s t) (h : ∀ c, c < 3 ∨ (5 ≤ c ∧ c ≤ 8) ∨ c = 11 → ¬ D c) : own_ag s t :=
  ⟨f.1 _ _ (h 0 (by omega)), f.1 _ _ (h 0 (by omega)), fun _ => f.1 _ _ (h 1 (by omega)), fun _ => f.1 _ _ (h 2 (by omega)), fun _ => f.1 _ _ (h 5 (by omega)), fun _ => f.1 _ _ (h 6 (by omega)), fun _ => f.1 _ _ (h 7 (by omega)), fun _ => f.1 _ _ (h 8 (by omega)), fun _ => f.2 _ _ (h 11 (by omega))⟩
theorem own_nD {c : Nat} (h : c < 3 ∨ (5 ≤ c ∧ c ≤ 15) ∨ c = 21) : ¬ own_D c := by unfold own_D; omega
theorem own_R_ag {s t : St} (h : own_R s t) : own_ag s t := own_ag_fr h.1 fun c hc => own_nD (by omega)
theorem own_Gd_of {s t : St} (g : own_Gd s) (q : gI t 0 39 = gI s 0 39) (a : own_ag s t) : own_Gd t := by
  refine ⟨?_, ?_, ?_, ?_, ?_, ?_, ?_, ?_, ?_, ?_⟩ <;> simp only [q, a.n, a.m, a.f1, a.f2, a.f5, a.f6, a.f7, a.f8, a.l11]
  · exact g.q
  · exact g.n
  · exact g.m
  · exact g.st
  · exact g.cu
  · exact g.am
  · exact g.li
  · exact g.co
  · exact g.pa
  · exact g.ba
def own_Iv (s : St) : Prop := (own_Gd s) ∧ (∀ j : Nat, j < 16 → (j : Int) < (gI s 0 41).toInt → gI s 5 j ≠ 1 → gL s 12 j = 0 ∧ gL s 13 j = 0) ∧ (∀ t, own_X t → own_ag s t → ∀ j, own_Rn s j → gL s 13 j = 1048576 / gL t 20 j)
theorem own_Iv.g {s : St} (h : own_Iv s) : own_Gd s := h.1
theorem own_Iv.z {s : St} (h : own_Iv s) : ∀ j : Nat, j < 16 → (j : Int) < (gI s 0 41).toInt → gI s 5 j ≠ 1 → gL s 12 j = 0 ∧ gL s 13 j = 0 := h.2.1
theorem own_Iv.s {s : St} (h : own_Iv s) : ∀ t, own_X t → own_ag s t → ∀ j, own_Rn s j → gL s 13 j = 1048576 / gL t 20 j := h.2.2
def own_Wf (V W : St) : Prop := (∀ c j, c ≠ 9 → ¬ own_D c → (c = 0 → j ≠ 42) → gI W c j = gI V c j) ∧ (gI W 0 42 = gI V 0 42 + 1) ∧ (∀ j, j < 16 → gI W 9 j = 0) ∧ (∀ j, gL W 11 j = gL V 11 j)
theorem own_Wf.i {V W : St} (h : own_Wf V W) : ∀ c j, c ≠ 9 → ¬ own_D c → (c = 0 → j ≠ 42) → gI W c j = gI V c j := h.1
theorem own_Wf.e {V W : St} (h : own_Wf V W) : gI W 0 42 = gI V 0 42 + 1 := h.2.1
theorem own_Wf.q {V W : St} (h : own_Wf V W) : ∀ j, j < 16 → gI W 9 j = 0 := h.2.2.1
theorem own_Wf.l {V W : St} (h : own_Wf V W) : ∀ j, gL W 11 j = gL V 11 j := h.2.2.2
theorem own_Wf_ag {V W : St} (h : own_Wf V W) : own_ag V W :=
  ⟨h.i _ _ (by decide) (own_nD (by omega)) (by omega), h.i _ _ (by decide) (own_nD (by omega)) (by omega), fun _ => h.i _ _ (by decide) (own_nD (by omega)) (by omega), fun _ => h.i _ _ (by decide) (own_nD (by omega)) (by omega), fun _ => h.i _ _ (by decide) (own_nD (by omega)) (by omega), fun _ => h.i _ _ (by decide) (own_nD (by omega)) (by omega), fun _ => h.i _ _ (by decide) (own_nD (by omega)) (by omega), fun _ => h.i _ _ (by decide) (own_nD (by omega)) (by omega), h.l⟩
theorem own_Ep_Wf {V W : St} (h : own_Ep V W) : own_Wf V W := by
  obtain ⟨T, m, hR, hM, e1, e2, e3, e4, e5, e6⟩ := h
  exact ⟨fun c j a b d => by rw [e1 c j a d, hR.1.1 c j b], by rw [e2, hR.1.1 _ _ (own_nD (by omega))], e3, fun j => by rw [e4 _ _ (by decide) (by decide) (by decide) (by decide), hR.1.2 _ _ (own_nD (by omega))]⟩
def own_Pre (V : St) : Prop := (own_Gd V) ∧ (∀ j : Nat, j < 16 → (j : Int) < (gI V 0 41).toInt → gI V 5 j ≠ 1 → gI V 21 j = 0 → gL V 12 j = 0 ∧ gL V 13 j = 0)
theorem own_Pre.g {V : St} (h : own_Pre V) : own_Gd V := h.1
theorem own_Pre.z {V : St} (h : own_Pre V) : ∀ j : Nat, j < 16 → (j : Int) < (gI V 0 41).toInt → gI V 5 j ≠ 1 → gI V 21 j = 0 → gL V 12 j = 0 ∧ gL V 13 j = 0 := h.2
theorem own_epI {V W : St} (p : own_Pre V) (h : own_Ep V W) : own_Iv W := by
  have wf := own_Ep_Wf h
  have ag := own_Wf_ag wf
  have gW := own_Gd_of p.g (wf.i 0 39 (by decide) (own_nD (by omega)) (by decide)) ag
  obtain ⟨T, m, hR, hM, e1, e2, e3, e4, e5, e6⟩ := h
  have aT := own_R_ag hR
  have gT := own_Gd_of p.g (hR.1.1 0 39 (own_nD (by omega))) aT
  refine ⟨gW, fun j h1 h2 h3 => ?_, fun t ht at' j rn => ?_⟩
  · obtain ⟨i, i0, i1, rfl⟩ := own_of h1 (by decide)
    have k := ix_int i0
    have h4 : gI T 5 (ix i) ≠ 1 := by rw [aT.f5, ← ag.f5]; exact h3
    obtain ⟨q1, q2, _⟩ := e5 i ⟨i0, i1⟩ (by rw [i32_lt, aT.m, ← ag.m]; omega)
    rw [q1, q2, own_np, own_ns, if_neg h4, if_neg h4, if_neg h4]
    by_cases z : gI T 21 (ix i) = 0
    · rw [if_pos z, if_pos z, hR.1.2 12 _ (own_nD (by omega)), hR.1.2 13 _ (own_nD (by omega))]
      rw [hR.1.1 21 _ (own_nD (by omega))] at z
      exact p.z _ h1 (by rw [← ag.m]; exact h2) (by rw [← ag.f5]; exact h3) z
    · rw [if_neg z, if_neg z]; exact ⟨rfl, rfl⟩
  · obtain ⟨r1, r2, r3⟩ := rn
    obtain ⟨i, i0, i1, rfl⟩ := own_of r1 (by decide)
    have k := ix_int i0
    have h4 : gI T 5 (ix i) = 1 := by rw [aT.f5, ← ag.f5]; exact r3
    have h5 : (ix i : Int) < (gI T 0 41).toInt := by rw [aT.m, ← ag.m]; exact r2
    obtain ⟨q1, q2, _⟩ := e5 i ⟨i0, i1⟩ (by rw [i32_lt]; omega)
    have u := (own_uq hR.2 ht (own_ag_tr (own_ag_sy aT) (own_ag_tr ag at'))).d20 _ r1
    have b := (own_b20 gT hR.2 _ r1).2 h5 h4
    rw [q2, own_ns, if_pos h4, own_sd, if_pos ⟨h4, by rw [own_64l]; simp; omega⟩, u]
theorem own_Iv_q {s t : St} (h : own_Iv s) (hR : own_R s t) : own_Iv t := by
  have a := own_R_ag hR
  refine ⟨own_Gd_of h.g (hR.1.1 0 39 (own_nD (by omega))) a, fun j h1 h2 h3 => ?_, fun t' ht at' j rn => ?_⟩
  · rw [hR.1.2 12 _ (own_nD (by omega)), hR.1.2 13 _ (own_nD (by omega))]
    rw [a.m] at h2; rw [a.f5] at h3
    exact h.z j h1 h2 h3
  · rw [hR.1.2 13 _ (own_nD (by omega))]
    exact h.s t' ht (own_ag_tr a at') j ⟨rn.1, by have := rn.2.1; rw [a.m] at this; exact this, by have := rn.2.2; rw [a.f5] at this; exact this⟩
theorem own_sn_ag {s u : St} (h : own_sn s u) : own_ag s u := own_ag_fr h.1 fun c hc => by omega
theorem own_sn_pre {s u : St} (h : own_sn s u) (g : own_Gd s) (z : ∀ j : Nat, j < 16 → (j : Int) < (gI s 0 41).toInt → gI s 5 j ≠ 1 → gL s 12 j = 0 ∧ gL s 13 j = 0) : own_Pre u := by
  have a := own_sn_ag h
  refine ⟨own_Gd_of g (h.1.1 0 39 (by decide)) a, fun j h1 h2 h3 _ => ?_⟩
  rw [h.1.2 12 _ (by decide), h.1.2 13 _ (by decide)]
  rw [a.m] at h2; rw [a.f5] at h3
  exact z j h1 h2 h3
theorem own_sn21 {s u : St} (h : own_sn s u) (j : Nat) (hj : j < 16) : gI u 21 j = if (j : Int) < (gI s 0 41).toInt ∧ gI s 5 j = 1 then 1 else 0 := by
  obtain ⟨i, i0, i1, rfl⟩ := own_of hj (by decide)
  have k := ix_int i0
  rw [h.2 i ⟨i0, i1⟩, k]
  simp only [i32_lt]
theorem own_k3 {s W : St} {a b v : Int32} (h : own_Iv s) (p : own_P3 s a b v W) : own_Iv W := by
  rcases p with ⟨_, _, e⟩ | ⟨_, _, _, _, e⟩ | ⟨_, _, _, _, _, _, e⟩ | ⟨a0, a1, b0, b1, m1, _, u, hu, hE⟩
  · rw [e]; exact h
  · rw [e]; exact h
  · rw [e]; exact h
  have q := own_sn_pre hu h.g h.z
  have ag := own_sn_ag hu
  have m0 := h.g.m.1
  have k := ix_int m0
  have g := q.g
  have em : (gI u 0 41 + 1).toInt = (gI u 0 41).toInt + 1 := by rw [ag.m]; exact i32_add (by simp; omega) (by simp; omega)
  have km : (gI u 0 41).toInt = ix (gI s 0 41) := by rw [ag.m, k]
  generalize hn : ix (gI s 0 41) = n at *
  refine own_epI ?_ hE
  have e5 : ∀ j, gI (own_add u n a b) 5 j = if j = n then 1 else gI u 5 j := fun j => by simp [own_add, gI_sI, gI_sL]
  have e6 : ∀ j, gI (own_add u n a b) 6 j = if j = n then a else gI u 6 j := fun j => by simp [own_add, gI_sI, gI_sL]
  have e7 : ∀ j, gI (own_add u n a b) 7 j = if j = n then b else gI u 7 j := fun j => by simp [own_add, gI_sI, gI_sL]
  have e8 : ∀ j, gI (own_add u n a b) 8 j = if j = n then -1 else gI u 8 j := fun j => by simp [own_add, gI_sI, gI_sL]
  have e1 : ∀ j, gI (own_add u n a b) 1 j = gI u 1 j := fun j => by simp [own_add, gI_sI, gI_sL]
  have e2 : ∀ j, gI (own_add u n a b) 2 j = gI u 2 j := fun j => by simp [own_add, gI_sI, gI_sL]
  have e41 : gI (own_add u n a b) 0 41 = gI u 0 41 + 1 := by simp [own_add, gI_sI, gI_sL]
  have e40 : gI (own_add u n a b) 0 40 = gI u 0 40 := by simp [own_add, gI_sI, gI_sL]
  have e39 : gI (own_add u n a b) 0 39 = gI u 0 39 := by simp [own_add, gI_sI, gI_sL]
  have e21 : ∀ j, gI (own_add u n a b) 21 j = gI u 21 j := fun j => by simp [own_add, gI_sI, gI_sL]
  have e11 : ∀ j, gL (own_add u n a b) 11 j = if j = n then 0 else gL u 11 j := fun j => by simp [own_add, gL_sI, gL_sL]
  have e12 : ∀ j, gL (own_add u n a b) 12 j = if j = n then 0 else gL u 12 j := fun j => by simp [own_add, gL_sI, gL_sL]
  have e13 : ∀ j, gL (own_add u n a b) 13 j = if j = n then 0 else gL u 13 j := fun j => by simp [own_add, gL_sI, gL_sL]
  refine ⟨⟨by rw [e39]; exact g.q, by rw [e40]; exact g.n, by rw [e41]; omega, fun j hj => ?_, fun j hj => ?_, fun j hj => ?_, fun j hj => ?_, fun j hj => ?_, fun c h1 h2 => ?_, fun c h1 h2 => ?_⟩, fun j h1 h2 => ?_⟩
  · rw [e41] at hj; rw [e5]
    by_cases z : j = n
    · rw [if_pos z]; exact .inl rfl
    · rw [if_neg z]; exact g.st j (by omega)
  · rw [e41] at hj; rw [e6, e40]
    by_cases z : j = n
    · rw [if_pos z, ag.n]; exact ⟨a0, a1⟩
    · rw [if_neg z]; exact g.cu j (by omega)
  · rw [e41] at hj; rw [e7]
    by_cases z : j = n
    · rw [if_pos z]; exact ⟨b0, b1⟩
    · rw [if_neg z]; exact g.am j (by omega)
  · rw [e41] at hj; rw [e5, e8]
    by_cases z : j = n
    · rw [if_pos z, if_pos z]; exact fun _ => rfl
    · rw [if_neg z, if_neg z]; exact g.li j (by omega)
  · rw [e41] at hj; rw [e11]
    by_cases z : j = n
    · rw [if_pos z]; simp
    · rw [if_neg z]; exact g.co j (by omega)
  · rw [e40] at h2; rw [e1]; exact g.pa c h1 h2
  · rw [e40] at h2; rw [e2]; exact g.ba c h1 h2
  · rw [e41] at h2; rw [e5, e21, e12, e13]
    by_cases z : j = n
    · rw [if_pos z]; exact fun q => absurd rfl q
    · rw [if_neg z, if_neg z, if_neg z]; exact q.z j h1 (by omega)
theorem own_k4 {s W : St} {a b v : Int32} (h : own_Iv s) (p : own_P4 s a b v W) : own_Iv W := by
  rcases p with ⟨_, _, e⟩ | ⟨_, _, _, e⟩ | ⟨l, b0, b1, _, u, hu, hE⟩
  · rw [e]; exact h
  · rw [e]; exact h
  have q := own_sn_pre hu h.g h.z
  have g := q.g
  refine own_epI ⟨⟨?_, ?_, ?_, ?_, ?_, fun j hj => ?_, ?_, ?_, ?_, ?_⟩, ?_⟩ hE <;> simp only [gI_sI, gL_sI]
  · exact g.q
  · exact g.n
  · exact g.m
  · exact g.st
  · exact g.cu
  · by_cases z : j = ix a
    · simp only [z, and_self, if_true]; exact ⟨b0, b1⟩
    · rw [if_neg (fun y => z y.2)]; exact g.am j (by simpa [gI_sI] using hj)
  · exact g.li
  · exact g.co
  · exact g.pa
  · exact g.ba
  · exact q.z
theorem own_k5 {s W : St} {a b v : Int32} (h : own_Iv s) (p : own_P5 s a b v W) : own_Iv W := by
  rcases p with ⟨_, _, e⟩ | ⟨_, _, _, _, e⟩ | ⟨a0, a1, b0, b1, _, u, hu, hE⟩
  · rw [e]; exact h
  · rw [e]; exact h
  have q := own_sn_pre hu h.g h.z
  have g := q.g
  refine own_epI ⟨⟨?_, ?_, ?_, ?_, ?_, ?_, ?_, ?_, ?_, fun c h1 h2 => ?_⟩, ?_⟩ hE <;> simp only [gI_sI, gL_sI]
  · exact g.q
  · exact g.n
  · exact g.m
  · exact g.st
  · exact g.cu
  · exact g.am
  · exact g.li
  · exact g.co
  · exact g.pa
  · by_cases z : c = ix a
    · simp only [z, and_self, if_true]; exact ⟨b0, b1⟩
    · rw [if_neg fun y => z y.2]; exact g.ba c h1 (by simpa [gI_sI] using h2)
  · exact q.z
/-- a change of one client's state and link (and comp) -/
theorem own_k678 {u V W : St} {n : Nat} (q : own_Pre u) (st : Int32) (hs : st = 1 ∨ st = 2 ∨ st = 3) (lk : Int32) (hl : st = 1 → lk = -1) (f : ∀ c j, (c = 0 ∨ c = 1 ∨ c = 2 ∨ c = 6 ∨ c = 7 ∨ c = 21) → gI V c j = gI u c j) (f5 : ∀ j, gI V 5 j = if j = n then st else gI u 5 j) (f8 : ∀ j, gI V 8 j = if j = n then lk else gI u 8 j) (f11 : ∀ j, gL V 11 j = gL u 11 j ∨ gL V 11 j = 0) (f12 : ∀ c j, c = 12 ∨ c = 13 → gL V c j = gL u c j) (hz : st ≠ 1 → gI u 21 n = 0 → gL u 12 n = 0 ∧ gL u 13 n = 0) (hE : own_Ep V W) : own_Iv W := by
  have g := q.g
  refine own_epI ⟨⟨by rw [f 0 _ (by omega)]; exact g.q, by rw [f 0 _ (by omega)]; exact g.n, by rw [f 0 _ (by omega)]; exact g.m, fun j hj => ?_, fun j hj => ?_, fun j hj => ?_, fun j hj => ?_, fun j hj => ?_, fun c h1 h2 => ?_, fun c h1 h2 => ?_⟩, fun j h1 hj h3 h4 => ?_⟩ hE
  all_goals try rw [f 0 41 (by omega)] at hj
  · rw [f5]
    by_cases z : j = n
    · rw [if_pos z]; exact hs
    · rw [if_neg z]; exact g.st j hj
  · rw [f 6 _ (by omega), f 0 _ (by omega)]; exact g.cu j hj
  · rw [f 7 _ (by omega)]; exact g.am j hj
  · rw [f5, f8]
    by_cases z : j = n
    · rw [if_pos z, if_pos z]; exact hl
    · rw [if_neg z, if_neg z]; exact g.li j hj
  · rcases f11 j with e | e
    · rw [e]; exact g.co j hj
    · rw [e]; simp
  · rw [f 0 40 (by omega)] at h2; rw [f 1 _ (by omega)]; exact g.pa c h1 h2
  · rw [f 0 40 (by omega)] at h2; rw [f 2 _ (by omega)]; exact g.ba c h1 h2
  · rw [f12 12 _ (by omega), f12 13 _ (by omega)]
    rw [f5] at h3; rw [f 21 _ (by omega)] at h4
    by_cases z : j = n
    · rw [if_pos z] at h3; rw [z] at h4 ⊢; exact hz h3 h4
    · rw [if_neg z] at h3; exact q.z j h1 hj h3 h4
theorem own_k6 {s W : St} {a b v : Int32} (h : own_Iv s) (p : own_P6 s a b v W) : own_Iv W := by
  rcases p with ⟨_, _, e⟩ | ⟨_, _, _, e⟩ | ⟨_, _, _, _, _, e⟩ | ⟨l, st, _, _, u, hu, hE⟩
  · rw [e]; exact h
  · rw [e]; exact h
  · rw [e]; exact h
  have k := ix_int l.1
  refine own_k678 (n := ix a) (own_sn_pre hu h.g h.z) 2 (by decide) b (fun y => absurd y (by decide)) (fun c j hc => ?_) (fun j => ?_) (fun j => ?_) (fun j => ?_) (fun c j hc => ?_) (fun _ z => ?_) hE
  · simp only [gI_sL, gI_sI]; rw [if_neg (by omega), if_neg (by omega)]
  · simp [gI_sL, gI_sI]
  · simp [gI_sL, gI_sI]
  · rw [gL_sL]; split
    · exact .inr rfl
    · exact .inl (by simp [gL_sI])
  · simp only [gL_sL, gL_sI]; rw [if_neg (by omega)]
  · rw [own_sn21 hu _ (by have := l.2.2.1; omega), if_pos ⟨by rw [k]; exact l.2.1, st⟩] at z
    exact absurd z (by decide)
theorem own_k7 {s W : St} {a v : Int32} (h : own_Iv s) (p : own_P7 s a v W) : own_Iv W := by
  rcases p with ⟨_, _, e⟩ | ⟨_, _, _, e⟩ | ⟨l, st, _, u, hu, hE⟩
  · rw [e]; exact h
  · rw [e]; exact h
  refine own_k678 (n := ix a) (own_sn_pre hu h.g h.z) 1 (by decide) (-1) (fun _ => rfl) (fun c j hc => ?_) (fun j => ?_) (fun j => ?_) (fun j => ?_) (fun c j hc => ?_) (fun z => absurd rfl z) hE
  · simp only [gI_sI]; rw [if_neg (by omega), if_neg (by omega)]
  · simp [gI_sI]
  · simp [gI_sI]
  · exact .inl (by simp [gL_sI])
  · simp only [gL_sI]
theorem own_k8 {s W : St} {a v : Int32} (h : own_Iv s) (p : own_P8 s a v W) : own_Iv W := by
  rcases p with ⟨_, _, e⟩ | ⟨_, _, _, e⟩ | ⟨l, _, _, u, hu, hE⟩
  · rw [e]; exact h
  · rw [e]; exact h
  have k := ix_int l.1
  have q := own_sn_pre hu h.g h.z
  have ag := own_sn_ag hu
  have h16 : ix a < 16 := by have := l.2.2.1; omega
  refine own_k678 (n := ix a) q 3 (by decide) (-1) (by decide) (fun c j hc => ?_) (fun j => ?_) (fun j => ?_) (fun j => ?_) (fun c j hc => ?_) (fun _ z => ?_) hE
  · simp only [gI_sL, gI_sI]; rw [if_neg (by omega), if_neg (by omega)]
  · simp [gI_sL, gI_sI]
  · simp [gI_sL, gI_sI]
  · rw [gL_sL]; split
    · exact .inr rfl
    · exact .inl (by simp [gL_sI])
  · simp only [gL_sL, gL_sI]; rw [if_neg (by omega)]
  · refine q.z _ h16 (by rw [k, ag.m]; exact l.2.1) (fun y => ?_) z
    rw [ag.f5] at y
    rw [own_sn21 hu _ h16, if_pos ⟨by rw [k]; exact l.2.1, y⟩] at z
    exact absurd z (by decide)
theorem own_ncb {t : St} (g : own_Gd t) (h : own_X t) (n : Nat) (hn : n < 16) (a : Int32) (a0 : 1 ≤ a.toInt) (a1 : a.toInt ≤ (gI t 0 39).toInt) : 0 ≤ (own_nc t n a).toInt ∧ (own_nc t n a).toInt ≤ 240000 := by
  have b := (own_b20 g h n hn).1
  have q := g.q
  have e : (gI t 0 39 - a).toInt = (gI t 0 39).toInt - a.toInt := i32_sub (by omega) (by omega)
  have p0 : 0 ≤ (gL t 19 n).toInt * (gI t 0 39 - a).toInt := Int.mul_nonneg b.1 (by omega)
  have p1 : (gL t 19 n).toInt * (gI t 0 39 - a).toInt ≤ 16000 * 15 := Int.mul_le_mul b.2 (by omega) (by omega) (by decide)
  have e2 : (gL t 19 n * Int32.toInt64 (gI t 0 39 - a)).toInt = (gL t 19 n).toInt * (gI t 0 39 - a).toInt := by
    rw [own_64m] <;> rw [Int32.toInt_toInt64] <;> omega
  rw [own_nc, own_64d (by omega) (by rw [Int32.toInt_toInt64]; omega), e2, Int32.toInt_toInt64]
  exact ⟨Int.ediv_nonneg p0 (by omega), Int.le_trans (Int.ediv_le_self _ p0) p1⟩
theorem own_ds_ag (s : St) (n : Nat) : own_ag s (own_ds s n) := by
  constructor <;> simp [own_ds, gI_sI, gI_sL, gL_sI, gL_sL]
theorem own_k9 {s W : St} {a v : Int32} (h : own_Iv s) (p : own_P9 s a v W) : own_Iv W := by
  rcases p with ⟨_, _, e⟩ | ⟨_, _, _, _, e⟩ | ⟨a0, a1, pk, t, hR, hp⟩
  · rw [e]; exact h
  · rw [e]; exact h
  have n16 : ix v < 16 := pk.2.2.1.1
  have rn := pk.2.2.1
  generalize ix v = n at *
  have a2 := own_ag_tr (own_ds_ag s n) (own_R_ag hR)
  have q39 : gI t 0 39 = gI s 0 39 := by rw [hR.1.1 0 39 (own_nD (by omega))]; simp [own_ds, gI_sI, gI_sL]
  have gt := own_Gd_of h.g q39 a2
  have b := own_ncb gt hR.2 n n16 a a0 (by rw [q39]; exact a1)
  have t12 : ∀ j, j ≠ n → gL t 12 j = gL s 12 j := fun j hj => by rw [hR.1.2 12 _ (own_nD (by omega))]; simp [own_ds, gL_sI, gL_sL, hj]
  have t13 : ∀ j, gL t 13 j = gL s 13 j := fun j => by rw [hR.1.2 13 _ (own_nD (by omega))]; simp [own_ds, gL_sI, gL_sL]
  generalize own_nc t n a = c at *
  have gY : own_Gd (sL t 11 n c) := by
    refine ⟨?_, ?_, ?_, ?_, ?_, ?_, ?_, ?_, ?_, ?_⟩ <;> simp only [gI_sL]
    · exact gt.q
    · exact gt.n
    · exact gt.m
    · exact gt.st
    · exact gt.cu
    · exact gt.am
    · exact gt.li
    · intro j hj
      rw [gL_sL]; split
      · exact b
      · exact gt.co j hj
    · exact gt.pa
    · exact gt.ba
  have zY : ∀ j : Nat, j < 16 → (j : Int) < (gI (sL t 11 n c) 0 41).toInt → gI (sL t 11 n c) 5 j ≠ 1 → gL (sL t 11 n c) 12 j = 0 ∧ gL (sL t 11 n c) 13 j = 0 := by
    intro j h1 h2 h3
    rw [gI_sL] at h2 h3
    rw [a2.m] at h2; rw [a2.f5] at h3
    have hj : j ≠ n := fun z => h3 (by rw [z]; exact rn.2.2)
    rw [gL_sL, gL_sL, if_neg (by omega), if_neg (by omega), t12 j hj, t13]
    exact h.z j h1 h2 h3
  rcases hp with ⟨c0, d0, e⟩ | ⟨_, u, hu, hE⟩
  · subst e
    have a3 : own_ag s (sL t 11 n c) := by
      refine ⟨?_, ?_, ?_, ?_, ?_, ?_, ?_, ?_, fun j => ?_⟩ <;> try simp only [gI_sL]
      · exact a2.n
      · exact a2.m
      · exact a2.f1
      · exact a2.f2
      · exact a2.f5
      · exact a2.f6
      · exact a2.f7
      · exact a2.f8
      · rw [gL_sL]; split
        · rename_i y; rw [y.2, c0, d0]
        · exact a2.l11 j
    refine ⟨gY, zY, fun t' ht at' j rj => ?_⟩
    rw [gL_sL, if_neg (by omega), t13]
    exact h.s t' ht (own_ag_tr a3 at') j ⟨rj.1, by have := rj.2.1; rw [a3.m] at this; exact this, by have := rj.2.2; rw [a3.f5] at this; exact this⟩
  · exact own_epI (own_sn_pre hu gY zY) hE
theorem own_k2 {s W : St} {a b v : Int32} (h : own_Iv s) (p : own_P2 s a b v W) : own_Iv W := by
  rcases p with ⟨_, _, e⟩ | ⟨_, _, _, _, e⟩ | ⟨_, _, _, _, _, _, e⟩ | ⟨a0, a1, b0, b1, m1, _, e⟩
  · rw [e]; exact h
  · rw [e]; exact h
  · rw [e]; exact h
  have g := h.g
  have k := ix_int (i := gI s 0 40) (by omega)
  have em : (gI s 0 40 + 1).toInt = (gI s 0 40).toInt + 1 := i32_add (by simp; omega) (by simp; omega)
  generalize hn : ix (gI s 0 40) = n at *
  have w40 : gI W 0 40 = gI s 0 40 + 1 := by rw [e]; simp [gI_sI]
  have w0 : ∀ j, j ≠ 40 → gI W 0 j = gI s 0 j := fun j hj => by rw [e]; simp [gI_sI, hj]
  have wi : ∀ c j, 3 ≤ c → gI W c j = gI s c j := fun c j hc => by rw [e]; simp only [gI_sI]; rw [if_neg (by omega), if_neg (by omega), if_neg (by omega)]
  have w1 : ∀ j, gI W 1 j = if j = n then a else gI s 1 j := fun j => by rw [e]; simp [gI_sI]
  have w2 : ∀ j, gI W 2 j = if j = n then b else gI s 2 j := fun j => by rw [e]; simp [gI_sI]
  have wl : ∀ c j, gL W c j = gL s c j := fun c j => by rw [e]; simp only [gL_sI]
  clear e
  have gW : own_Gd W := by
    refine ⟨?_, ?_, ?_, ?_, ?_, ?_, ?_, ?_, ?_, ?_⟩ <;> simp only [w0 39 (by decide), w0 41 (by decide), w40, w1, w2, wi 5 _ (by decide), wi 6 _ (by decide), wi 7 _ (by decide), wi 8 _ (by decide), wl]
    · exact g.q
    · omega
    · exact g.m
    · exact g.st
    · intro j hj; have := g.cu j hj; omega
    · exact g.am
    · exact g.li
    · exact g.co
    · intro c h1 h2
      by_cases z : c = n
      · rw [if_pos z]; omega
      · rw [if_neg z]; exact g.pa c h1 (by omega)
    · intro c h1 h2
      by_cases z : c = n
      · rw [if_pos z]; omega
      · rw [if_neg z]; exact g.ba c h1 (by omega)
  refine ⟨gW, fun j h1 h2 h3 => ?_, fun t ht ag j rn => ?_⟩
  · rw [wl, wl]; rw [w0 41 (by decide)] at h2; rw [wi 5 _ (by decide)] at h3; exact h.z j h1 h2 h3
  have gt := own_Gd_of (t := sI t 0 39 (gI W 0 39)) gW (by simp [gI_sI]) (by
    refine ⟨?_, ?_, ?_, ?_, ?_, ?_, ?_, ?_, ?_⟩ <;> simp [gI_sI, gL_sI, ag.n, ag.m, ag.f1, ag.f2, ag.f5, ag.f6, ag.f7, ag.f8, ag.l11])
  obtain ⟨tA, tI, t4, tW, tV, tT⟩ := ht
  have zn : gL t 3 n = 0 := by
    obtain ⟨i, i0, i1, ei⟩ := own_of (j := n) (n := 8) (by omega) (by decide)
    have ki := ix_int i0
    have z := tI i ⟨i0, i1⟩
    have sB : ∀ x m, own_sB t i (n + 1) x m = x := by
      intro x m
      induction m with
      | zero => rfl
      | succ m ih => rw [own_sB, if_neg (by rw [ag.n, w40]; omega)]; exact ih
    have sA : ∀ m, m ≤ 16 → own_sA t i m = 0 := by
      intro m
      induction m with
      | zero => intro _; rfl
      | succ m ih =>
        intro hm
        rw [own_sA]
        by_cases p : gI t 17 m = 0
        · rw [if_pos p]; exact ih (by omega)
        · have l := own_b17 ⟨tA, tI, t4, tW, tV, tT⟩ m (by omega) p
          rw [ag.m, w0 41 (by decide)] at l
          have := g.cu m l
          rw [if_neg p, if_neg (by rw [ag.f6, wi 6 _ (by decide), i32_eq]; omega)]; exact ih (by omega)
    rw [ei, own_I, ei, sB, sA 16 (by decide)] at z
    split at z <;> exact z
  -- the state before, with t's derived values
  let t0 : St := sI (sI (sI t 1 n (gI s 1 n)) 2 n (gI s 2 n)) 0 40 (gI s 0 40)
  have q40 : gI t0 0 40 = gI s 0 40 := by simp [t0, gI_sI]
  have q0 : ∀ j, j ≠ 40 → gI t0 0 j = gI t 0 j := fun j hj => by simp [t0, gI_sI, hj]
  have qi : ∀ c j, 3 ≤ c → gI t0 c j = gI t c j := fun c j hc => by simp only [t0, gI_sI]; rw [if_neg (by omega), if_neg (by omega), if_neg (by omega)]
  have q1 : ∀ j, gI t0 1 j = gI s 1 j := fun j => by
    by_cases z : j = n
    · simp [t0, gI_sI, z]
    · simp [t0, gI_sI, z, ag.f1, w1]
  have q2 : ∀ j, gI t0 2 j = gI s 2 j := fun j => by
    by_cases z : j = n
    · simp [t0, gI_sI, z]
    · simp [t0, gI_sI, z, ag.f2, w2]
  have ql : ∀ c j, gL t0 c j = gL t c j := fun c j => by simp only [t0, gL_sI]
  have ag0 : own_ag s t0 := ⟨q40, by rw [q0 41 (by decide), ag.m, w0 41 (by decide)], q1, q2, fun j => by rw [qi 5 _ (by decide), ag.f5, wi 5 _ (by decide)], fun j => by rw [qi 6 _ (by decide), ag.f6, wi 6 _ (by decide)], fun j => by rw [qi 7 _ (by decide), ag.f7, wi 7 _ (by decide)], fun j => by rw [qi 8 _ (by decide), ag.f8, wi 8 _ (by decide)], fun j => by rw [ql, ag.l11, wl]⟩
  have hw : ∀ m x, own_hw t0 m x = own_hw t m x := by
    intro m
    induction m with
    | zero => intro x; rfl
    | succ m ih => intro x; simp only [own_hw, qi 5 _ (by decide : 3 ≤ 5), qi 8 _ (by decide : 3 ≤ 8), q0 41 (by decide), ih]
  have X0 : own_X t0 := by
    refine ⟨fun i ib => ?_, fun i ib => ?_, by rw [ql]; exact t4, fun i ib i1 => ?_, fun j hj => ?_, fun i ib => ?_⟩
    · rw [qi 16 _ (by decide), qi 17 _ (by decide)]
      have := tA i ib
      simp only [own_Ho, own_A, hw, q0 41 (by decide), qi 5 _ (by decide : 3 ≤ 5)]
      exact this
    · rw [ql, tI i ib, own_I, own_I, q40, ag.n, w40]
      have ki := ix_int ib.1
      have hsA := own_sA_q (s := t) (t := t0) (fun j => qi 6 j (by decide)) (fun j => qi 7 j (by decide)) i 16 (fun j _ => qi 17 j (by decide))
      by_cases l : i < gI s 0 40
      · have l' := l
        rw [i32_lt] at l'
        rw [if_pos l, if_pos (by rw [i32_lt]; omega), hsA]
        have sB : ∀ x m, own_sB t i (ix i + 1) x m = own_sB t0 i (ix i + 1) x m := by
          intro x m
          induction m with
          | zero => rfl
          | succ m ih =>
            rw [own_sB, own_sB, ih, q40, q1, q2, ql, ag.n, w40, ag.f1, ag.f2, w1, w2]
            by_cases z : ix i + 1 + m = n
            · rw [z, zn, if_neg (fun y => absurd y.2.2 (by decide)), if_neg (fun y => absurd y.2.2 (by decide))]
            · rw [if_neg z, if_neg z]
              have : (((ix i + 1 + m : Nat) : Int) < (gI s 0 40 + 1).toInt) ↔ (((ix i + 1 + m : Nat) : Int) < (gI s 0 40).toInt) := by omega
              simp only [this]
        exact sB _ _
      · rw [if_neg l]
        by_cases z : ix i = n
        · have := tI i ib
          rw [z, zn, own_I, ag.n, w40] at this
          exact this.symm
        · rw [if_neg (by rw [i32_lt] at l ⊢; omega)]
    · have ki := ix_int ib.1
      rw [ql, tW i ib i1, own_W, own_W, q40, q1, q2, ql, ag.n, w40, ag.f1, ag.f2, w1, w2]
      by_cases z : ix i = n
      · rw [z, zn, if_neg (fun y => absurd y.2 (by simp)), if_neg (fun y => absurd y.2 (by simp))]
      · rw [if_neg z, if_neg z]
        simp only [ql]
        have : (i < gI s 0 40 + 1) ↔ (i < gI s 0 40) := by rw [i32_lt, i32_lt]; omega
        simp only [this]
    · rw [ql, tV j hj, own_V, own_V, qi 17 _ (by decide), qi 6 _ (by decide), qi 7 _ (by decide), ql, ql]
    · have hB := own_Bs_q (s := t) (t := t0) i 16 (fun j _ => ⟨qi 16 j (by decide), qi 17 j (by decide), ql 18 j⟩)
      rw [ql, ql, own_T, hB, q0 41 (by decide), qi 5 _ (by decide), ql]
      exact tT i ib
  have := h.s t0 X0 ag0 j ⟨rn.1, by have := rn.2.1; rw [w0 41 (by decide)] at this; exact this, by have := rn.2.2; rw [wi 5 _ (by decide)] at this; exact this⟩
  rw [wl, this, ql]
/-- getClient -/
def own_fd (s : St) (f : Int32) (j : Nat) : Int32 := if f = 0 then gI s 5 j else if f = 1 then gI s 6 j else if f = 2 then gI s 7 j else if f = 3 then gI s 8 j else if f = 5 then Int64.toInt32 (gL s 13 j) else if f = 6 then Int64.toInt32 (gL s 12 j) else if f = 7 then gI s 9 j else if f = 8 then gI s 10 j else if f = 9 then Int64.toInt32 (gL s 11 j) else if f = 10 then Int64.toInt32 (gL s 14 j) else Int64.toInt32 (gL s 15 j)
theorem own_10 (s : St) (i f : Int32) (ib : inb 16 i) (hf : 0 ≤ f.toInt ∧ f.toInt ≤ 11) (h4 : f ≠ 4) (Q : Int32 → St → Prop) (h : Q (if (i.toInt < (gI s 0 41).toInt) then own_fd s f (ix i) else 0) s) : calI PP 10 21 [.ref 0, .int i, .int f] s Q := by
  apply c10_in
  refine ⟨fun q => absurd ib.1 (by rw [i32_lt] at q; simp at q; omega), fun _ => ⟨fun l => ⟨fun _ => ⟨fun q => absurd hf.1 (by rw [i32_lt] at q; simp at q; omega), fun _ => ⟨fun q => absurd hf.2 (by rw [i32_lt] at q; simp at q; omega), fun _ => ?_⟩⟩, fun q => absurd ib.2 (by rw [i32_lt] at q; exact q)⟩, fun l => ?_⟩⟩
  · rw [i32_lt] at l
    rw [if_pos l, own_fd] at h
    refine ⟨fun e => ⟨ib, ?_⟩, fun e => ⟨ib, ?_⟩, fun e => ⟨ib, ?_⟩, fun e => ⟨ib, ?_⟩, fun e => absurd e h4, fun e => ⟨ib, ?_⟩, fun e => ⟨ib, ?_⟩, fun e => ⟨ib, ?_⟩, fun e => ⟨ib, ?_⟩, fun e => ⟨ib, ?_⟩, fun e => ⟨ib, ?_⟩, fun e => ⟨ib, ?_⟩⟩
    all_goals try (subst e; simpa using h)
    have e : f = 11 := by rw [i32_eq]; simp; omega
    subst e; simpa using h
  · rw [i32_lt] at l
    rw [if_neg l] at h; exact h
theorem own_divx (a : Int32) (ha : 1 ≤ a.toInt) : Int64.toInt32 (1048576 / Int32.toInt64 a) = 1048576 / a := by
  rw [i32_eq, Jvm.Kit.i32_div (by omega), Int64.toInt_toInt32, Int64.toInt_div, Int32.toInt_toInt64]
  have b : 0 ≤ (1048576 : Int).tdiv a.toInt ∧ (1048576 : Int).tdiv a.toInt ≤ 1048576 := by
    rw [Int.tdiv_eq_ediv_of_nonneg (by decide)]
    exact ⟨Int.ediv_nonneg (by decide) (by omega), Int.ediv_le_self _ (by decide)⟩
  simp
  have e1 : ((1048576 : Int).tdiv a.toInt).bmod 18446744073709551616 = (1048576 : Int).tdiv a.toInt := Int.bmod_eq_of_le (by omega) (by omega)
  rw [e1]
  exact Int.bmod_eq_of_le (by omega) (by omega)
theorem own_32 {x : Int64} (h0 : -2147483648 ≤ x.toInt) (h1 : x.toInt ≤ 2147483647) : (Int64.toInt32 x).toInt = x.toInt := by
  rw [Int64.toInt_toInt32]; exact Int.bmod_eq_of_le (by omega) (by omega)
theorem own_dvq {x : Int64} (h0 : 1 ≤ x.toInt) (h1 : x.toInt ≤ 256000) : Int64.toInt32 (1048576 / x) = 1048576 / Int64.toInt32 x := by
  have e := own_32 (x := x) (by omega) (by omega)
  have e2 : Int32.toInt64 (Int64.toInt32 x) = x := by rw [own_64e, Int32.toInt_toInt64, e]
  rw [← own_divx (Int64.toInt32 x) (by omega), e2]
/-! totals -/
def own_tot (s : St) : Nat → Int
  | 0 => 0
  | n + 1 => own_tot s n + (if (n : Int) < (gI s 0 41).toInt then (gI s 10 n).toInt else 0)
def own_Tv (s : St) (k : Int) : Prop := (∀ j : Nat, j < 16 → (j : Int) < (gI s 0 41).toInt → 0 ≤ (gI s 10 j).toInt) ∧ (own_tot s 16 = (gI s 0 43).toInt) ∧ ((gI s 0 43).toInt ≤ k)
theorem own_Tv.p {s : St} {k : Int} (h : own_Tv s k) : ∀ j : Nat, j < 16 → (j : Int) < (gI s 0 41).toInt → 0 ≤ (gI s 10 j).toInt := h.1
theorem own_Tv.e {s : St} {k : Int} (h : own_Tv s k) : own_tot s 16 = (gI s 0 43).toInt := h.2.1
theorem own_Tv.b {s : St} {k : Int} (h : own_Tv s k) : (gI s 0 43).toInt ≤ k := h.2.2
theorem own_tot_eq {s t : St} (m : gI t 0 41 = gI s 0 41) (h : ∀ j, gI t 10 j = gI s 10 j) : ∀ n, own_tot t n = own_tot s n
  | 0 => rfl
  | n + 1 => by simp only [own_tot, m, h, own_tot_eq m h n]
theorem own_Tv_eq {s t : St} {k k' : Int} (v : own_Tv s k) (hk : k ≤ k') (m : gI t 0 41 = gI s 0 41) (d : gI t 0 43 = gI s 0 43) (h : ∀ j, gI t 10 j = gI s 10 j) : own_Tv t k' :=
  ⟨fun j a b => by rw [h]; rw [m] at b; exact v.p j a b, by rw [own_tot_eq m h, d]; exact v.e, by rw [d]; have := v.b; omega⟩
theorem own_tot_rg {s : St} {k : Int} (v : own_Tv s k) : ∀ n, n ≤ 16 → 0 ≤ own_tot s n ∧ own_tot s n ≤ 2147483648 * n
  | 0, _ => by simp [own_tot]
  | n + 1, hn => by
    have i := own_tot_rg v n (by omega)
    have r := rng32 (gI s 10 n)
    simp only [own_tot]
    split
    · rename_i q; have := v.p n (by omega) q; omega
    · omega
theorem own_tot_le {s : St} {k : Int} (v : own_Tv s k) (j : Nat) (l : (j : Int) < (gI s 0 41).toInt) : ∀ n, j < n → n ≤ 16 → (gI s 10 j).toInt ≤ own_tot s n
  | 0, h, _ => absurd h (by omega)
  | n + 1, h, hn => by
    have r := (own_tot_rg v n (by omega)).1
    simp only [own_tot]
    by_cases z : j = n
    · subst z; rw [if_pos l]; omega
    · have := own_tot_le v j l n (by omega) (by omega)
      split
      · rename_i q; have := v.p n (by omega) q; omega
      · omega
theorem own_Tv_W {s V W : St} {k k' : Int} (v : own_Tv V k) (h : own_Ep V W) : own_Tv W k := by
  have f := own_Ep_Wf h
  exact own_Tv_eq v (by omega) (f.i _ _ (by decide) (own_nD (by omega)) (by omega)) (f.i _ _ (by decide) (own_nD (by omega)) (by omega)) fun j => f.i _ _ (by decide) (own_nD (by omega)) (by omega)
theorem own_Tv_R {s t : St} {k : Int} (v : own_Tv s k) (h : own_R s t) : own_Tv t k :=
  own_Tv_eq v (by omega) (h.1.1 _ _ (own_nD (by omega))) (h.1.1 _ _ (own_nD (by omega))) fun j => h.1.1 _ _ (own_nD (by omega))
theorem own_Tv_sn {s t : St} {k : Int} (v : own_Tv s k) (h : own_sn s t) : own_Tv t k :=
  own_Tv_eq v (by omega) (h.1.1 _ _ (by omega)) (h.1.1 _ _ (by omega)) fun j => h.1.1 _ _ (by omega)
theorem own_t2 {s W : St} {a b v : Int32} {k : Int} (h : own_Tv s k) (p : own_P2 s a b v W) : own_Tv W (k + 1) := by
  rcases p with ⟨_, _, e⟩ | ⟨_, _, _, _, e⟩ | ⟨_, _, _, _, _, _, e⟩ | ⟨a0, a1, b0, b1, m1, _, e⟩
  all_goals rw [e]
  · exact own_Tv_eq h (by omega) rfl rfl fun _ => rfl
  · exact own_Tv_eq h (by omega) rfl rfl fun _ => rfl
  · exact own_Tv_eq h (by omega) rfl rfl fun _ => rfl
  · exact own_Tv_eq h (by omega) (by simp [gI_sI]) (by simp [gI_sI]) fun _ => by simp [gI_sI]
theorem own_t3 {s W : St} {a b v : Int32} {k : Int} (m0 : 0 ≤ (gI s 0 41).toInt) (h : own_Tv s k) (p : own_P3 s a b v W) : own_Tv W (k + 1) := by
  rcases p with ⟨_, _, e⟩ | ⟨_, _, _, _, e⟩ | ⟨_, _, _, _, _, _, e⟩ | ⟨a0, a1, b0, b1, m1, _, u, hu, hE⟩
  · rw [e]; exact own_Tv_eq h (by omega) rfl rfl fun _ => rfl
  · rw [e]; exact own_Tv_eq h (by omega) rfl rfl fun _ => rfl
  · rw [e]; exact own_Tv_eq h (by omega) rfl rfl fun _ => rfl
  have hu' := own_Tv_sn h hu
  have ag := own_sn_ag hu
  have kx := ix_int m0
  have em : (gI u 0 41 + 1).toInt = (gI u 0 41).toInt + 1 := by rw [ag.m]; exact i32_add (by simp; omega) (by simp; omega)
  have km : (gI u 0 41).toInt = ix (gI s 0 41) := by rw [ag.m, kx]
  generalize ix (gI s 0 41) = n at *
  refine own_Tv_W (s := s) (k' := 0) ?_ hE
  have e10 : ∀ j, gI (own_add u n a b) 10 j = if j = n then 0 else gI u 10 j := fun j => by simp [own_add, gI_sI, gI_sL]
  have e41 : gI (own_add u n a b) 0 41 = gI u 0 41 + 1 := by simp [own_add, gI_sI, gI_sL]
  have e43 : gI (own_add u n a b) 0 43 = gI u 0 43 := by simp [own_add, gI_sI, gI_sL]
  refine ⟨fun j h1 h2 => ?_, ?_, by rw [e43]; have := hu'.b; omega⟩
  · rw [e41] at h2; rw [e10]
    by_cases z : j = n
    · rw [if_pos z]; decide
    · rw [if_neg z]; exact hu'.p j h1 (by omega)
  · rw [e43, ← hu'.e]
    generalize 16 = q
    induction q with
    | zero => rfl
    | succ q ih =>
      simp only [own_tot]
      rw [ih, e10, e41, em]
      by_cases z : q = n
      · rw [if_pos z, if_pos (by omega), if_neg (by omega)]; rfl
      · rw [if_neg z]
        by_cases y : (q : Int) < (gI u 0 41).toInt
        · rw [if_pos (by omega), if_pos y]
        · rw [if_neg (by omega), if_neg y]
theorem own_t4 {s W : St} {a b v : Int32} {k : Int} (h : own_Tv s k) (p : own_P4 s a b v W) : own_Tv W (k + 1) := by
  rcases p with ⟨_, _, e⟩ | ⟨_, _, _, e⟩ | ⟨l, b0, b1, _, u, hu, hE⟩
  · rw [e]; exact own_Tv_eq h (by omega) rfl rfl fun _ => rfl
  · rw [e]; exact own_Tv_eq h (by omega) rfl rfl fun _ => rfl
  exact own_Tv_W (s := s) (k' := 0) (own_Tv_eq (own_Tv_sn h hu) (by omega) (by simp [gI_sI]) (by simp [gI_sI]) fun _ => by simp [gI_sI]) hE
theorem own_t5 {s W : St} {a b v : Int32} {k : Int} (h : own_Tv s k) (p : own_P5 s a b v W) : own_Tv W (k + 1) := by
  rcases p with ⟨_, _, e⟩ | ⟨_, _, _, _, e⟩ | ⟨a0, a1, b0, b1, _, u, hu, hE⟩
  · rw [e]; exact own_Tv_eq h (by omega) rfl rfl fun _ => rfl
  · rw [e]; exact own_Tv_eq h (by omega) rfl rfl fun _ => rfl
  exact own_Tv_W (s := s) (k' := 0) (own_Tv_eq (own_Tv_sn h hu) (by omega) (by simp [gI_sI]) (by simp [gI_sI]) fun _ => by simp [gI_sI]) hE
theorem own_t6 {s W : St} {a b v : Int32} {k : Int} (h : own_Tv s k) (p : own_P6 s a b v W) : own_Tv W (k + 1) := by
  rcases p with ⟨_, _, e⟩ | ⟨_, _, _, e⟩ | ⟨_, _, _, _, _, e⟩ | ⟨l, st, _, _, u, hu, hE⟩
  · rw [e]; exact own_Tv_eq h (by omega) rfl rfl fun _ => rfl
  · rw [e]; exact own_Tv_eq h (by omega) rfl rfl fun _ => rfl
  · rw [e]; exact own_Tv_eq h (by omega) rfl rfl fun _ => rfl
  exact own_Tv_W (s := s) (k' := 0) (own_Tv_eq (own_Tv_sn h hu) (by omega) (by simp [gI_sI, gI_sL]) (by simp [gI_sI, gI_sL]) fun _ => by simp [gI_sI, gI_sL]) hE
theorem own_t7 {s W : St} {a v : Int32} {k : Int} (h : own_Tv s k) (p : own_P7 s a v W) : own_Tv W (k + 1) := by
  rcases p with ⟨_, _, e⟩ | ⟨_, _, _, e⟩ | ⟨l, st, _, u, hu, hE⟩
  · rw [e]; exact own_Tv_eq h (by omega) rfl rfl fun _ => rfl
  · rw [e]; exact own_Tv_eq h (by omega) rfl rfl fun _ => rfl
  exact own_Tv_W (s := s) (k' := 0) (own_Tv_eq (own_Tv_sn h hu) (by omega) (by simp [gI_sI, gI_sL]) (by simp [gI_sI, gI_sL]) fun _ => by simp [gI_sI, gI_sL]) hE
theorem own_t8 {s W : St} {a v : Int32} {k : Int} (h : own_Tv s k) (p : own_P8 s a v W) : own_Tv W (k + 1) := by
  rcases p with ⟨_, _, e⟩ | ⟨_, _, _, e⟩ | ⟨l, _, _, u, hu, hE⟩
  · rw [e]; exact own_Tv_eq h (by omega) rfl rfl fun _ => rfl
  · rw [e]; exact own_Tv_eq h (by omega) rfl rfl fun _ => rfl
  exact own_Tv_W (s := s) (k' := 0) (own_Tv_eq (own_Tv_sn h hu) (by omega) (by simp [gI_sI, gI_sL]) (by simp [gI_sI, gI_sL]) fun _ => by simp [gI_sI, gI_sL]) hE
theorem own_t9 {s W : St} {a v : Int32} {k : Int} (hk : k < 1000000) (h : own_Tv s k) (p : own_P9 s a v W) : own_Tv W (k + 1) := by
  rcases p with ⟨_, _, e⟩ | ⟨_, _, _, _, e⟩ | ⟨a0, a1, pk, t, hR, hp⟩
  · rw [e]; exact own_Tv_eq h (by omega) rfl rfl fun _ => rfl
  · rw [e]; exact own_Tv_eq h (by omega) rfl rfl fun _ => rfl
  have rn := pk.2.2.1
  generalize ix v = n at *
  have key : own_Tv (own_ds s n) (k + 1) := by
    have t0 := (own_tot_rg h 16 (by decide)).1
    have te := h.e
    have tb := h.b
    have tl := own_tot_le h n rn.2.1 16 rn.1 (by decide)
    have tp := h.p n rn.1 rn.2.1
    have e1 : (gI s 10 n + 1).toInt = (gI s 10 n).toInt + 1 := i32_add (by simp; omega) (by simp; omega)
    have e2 : (gI s 0 43 + 1).toInt = (gI s 0 43).toInt + 1 := i32_add (by simp; omega) (by simp; omega)
    have e10 : ∀ j, gI (own_ds s n) 10 j = if j = n then gI s 10 n + 1 else gI s 10 j := fun j => by simp [own_ds, gI_sI, gI_sL]
    have e41 : gI (own_ds s n) 0 41 = gI s 0 41 := by simp [own_ds, gI_sI, gI_sL]
    have e43 : gI (own_ds s n) 0 43 = gI s 0 43 + 1 := by simp [own_ds, gI_sI, gI_sL]
    refine ⟨fun j h1 h2 => ?_, ?_, by rw [e43, e2]; omega⟩
    · rw [e41] at h2; rw [e10]
      by_cases z : j = n
      · rw [if_pos z, e1]; omega
      · rw [if_neg z]; exact h.p j h1 h2
    · have st : ∀ q, own_tot (own_ds s n) q = own_tot s q + (if n < q then 1 else 0) := by
        intro q
        induction q with
        | zero => simp [own_tot]
        | succ q ih =>
          simp only [own_tot]
          rw [ih, e10, e41]
          by_cases z : q = n
          · subst z
            have y1 : (if q < q then (1 : Int) else 0) = 0 := if_neg (Nat.lt_irrefl q)
            have y2 : (if q < q + 1 then (1 : Int) else 0) = 1 := if_pos (by omega)
            rw [y1, y2, if_pos rfl, if_pos rn.2.1, if_pos rn.2.1, e1]; omega
          · rw [if_neg z]
            by_cases y : n < q
            · have y1 : (if n < q then (1 : Int) else 0) = 1 := if_pos y
              have y2 : (if n < q + 1 then (1 : Int) else 0) = 1 := if_pos (by omega)
              rw [y1, y2]; omega
            · have y1 : (if n < q then (1 : Int) else 0) = 0 := if_neg y
              have y2 : (if n < q + 1 then (1 : Int) else 0) = 0 := if_neg (by omega)
              rw [y1, y2]; omega
      rw [st, e43, e2, te, if_pos rn.1]
  have kt := own_Tv_R key hR
  have ky : ∀ c, own_Tv (sL t 11 n c) (k + 1) := fun c => own_Tv_eq kt (by omega) (gI_sL ..) (gI_sL ..) fun _ => gI_sL ..
  rcases hp with ⟨c0, d0, e⟩ | ⟨_, u, hu, hE⟩
  · rw [e]; exact ky _
  · exact own_Tv_W (s := s) (k' := 0) (own_Tv_sn (ky _) hu) hE
/-- the constructor -/
theorem own_0 (a : Int32) (Q : St → Prop) (h : ∀ s, own_Iv s → gI s 0 41 = 0 → gI s 0 40 = 1 → gI s 0 42 = 0 → gI s 0 43 = 0 → (gI s 0 39).toInt = (if a.toInt < 1 then 1 else if 16 < a.toInt then 16 else a.toInt) → Q s) : calV PP 0 0 [.ref 0, .int a] s0 Q := by
  apply c0_in
  intro m1 e1 m2 e2
  refine ⟨by decide, by decide, ?_⟩
  have hq : m2.toInt = (if a.toInt < 1 then 1 else if 16 < a.toInt then 16 else a.toInt) := by
    by_cases p : a < 1
    · rw [if_pos p] at e1
      subst e1
      rw [if_neg (by decide)] at e2
      rw [i32_lt] at p; simp at p
      rw [e2, if_pos (by omega)]; rfl
    · rw [if_neg p] at e1
      subst e1
      rw [i32_lt] at p; simp at p
      rw [if_neg (by omega)]
      by_cases r : 16 < m1
      · rw [if_pos r] at e2; rw [i32_lt] at r; simp at r; rw [e2, if_pos (by omega)]; rfl
      · rw [if_neg r] at e2; rw [i32_lt] at r; simp at r; rw [e2, if_neg (by omega)]
  generalize hS : (sI (sI (sI (sI (sI (sI (sI s0 0 39 m2) 0 40 (1 : Int32)) 1 (ix (0 : Int32)) (-1 : Int32)) 2 (ix (0 : Int32)) (0 : Int32)) 0 41 (0 : Int32)) 0 42 (0 : Int32)) 0 43 (0 : Int32)) = S
  have h39 : gI S 0 39 = m2 := by subst hS; rfl
  have h40 : gI S 0 40 = 1 := by subst hS; rfl
  have h41 : gI S 0 41 = 0 := by subst hS; rfl
  have h42 : gI S 0 42 = 0 := by subst hS; rfl
  have h43 : gI S 0 43 = 0 := by subst hS; rfl
  refine h S ⟨⟨?_, ?_, ?_, ?_, ?_, ?_, ?_, ?_, ?_, ?_⟩, ?_, ?_⟩ h41 h40 h42 h43 (by rw [h39]; exact hq)
  · rw [h39, hq]; split
    · omega
    · split <;> omega
  · rw [h40]; decide
  · rw [h41]; decide
  · intro j hj; rw [h41] at hj; simp at hj; omega
  · intro j hj; rw [h41] at hj; simp at hj; omega
  · intro j hj; rw [h41] at hj; simp at hj; omega
  · intro j hj; rw [h41] at hj; simp at hj; omega
  · intro j hj; rw [h41] at hj; simp at hj; omega
  · intro c h1 h2; rw [h40] at h2; simp at h2; omega
  · intro c h1 h2; rw [h40] at h2; simp at h2; omega
  · intro j _ hj; rw [h41] at hj; simp at hj; omega
  · intro t _ _ j rn; have := rn.2.1; rw [h41] at this; simp at this; omega

/-! getClient, the tickets -/
theorem own_10t (s : St) (i : Int32) (ib : inb 16 i) (Q : Int32 → St → Prop) (h0 : ¬ own_Rn s (ix i) → Q 0 s) (h1 : own_Rn s (ix i) → ∀ t, own_R s t → Q (Int64.toInt32 (gL t 20 (ix i))) t) : calI PP 10 21 [.ref 0, .int i, .int 4] s Q := by
  have k := ix_int ib.1
  have hh : ix i < 16 := by have : i.toInt < (16 : Int) := ib.2; omega
  apply c10_in
  refine ⟨fun q => absurd ib.1 (by rw [i32_lt] at q; simp at q; omega), fun _ => ⟨fun l => ⟨fun _ => ⟨fun q => absurd q (by decide), fun _ => ⟨fun q => absurd q (by decide), fun _ => ?_⟩⟩, fun q => absurd ib.2 (by rw [i32_lt] at q; exact q)⟩, fun l => ?_⟩⟩
  · rw [i32_lt] at l
    refine ⟨fun e => absurd e (by decide), fun e => absurd e (by decide), fun e => absurd e (by decide), fun e => absurd e (by decide), fun e => ?_, fun e => absurd e (by decide), fun e => absurd e (by decide), fun e => absurd e (by decide), fun e => absurd e (by decide), fun e => absurd e (by decide), fun e => absurd e (by decide), fun e => absurd e (by decide)⟩
    apply c17_in
    exact ⟨ib, fun st => own_19 s _ fun t hR => ⟨ib, h1 ⟨hh, by omega, st⟩ t hR⟩, fun st => h0 fun z => st z.2.2⟩
  · rw [i32_lt] at l
    exact h0 fun z => l (by have := z.2.1; omega)

/-- getCurrency -/
theorem own_11 (s : St) (i f : Int32) (ib : inb 8 i) (Q : Int32 → St → Prop) (h0 : ¬ i.toInt < (gI s 0 40).toInt → Q 0 s) (ha : f = 0 → i.toInt < (gI s 0 40).toInt → Q (if i = 0 then -1 else gI s 1 (ix i)) s) (hb : f = 1 → i.toInt < (gI s 0 40).toInt → Q (if i = 0 then 0 else gI s 2 (ix i)) s) (hc : f = 2 → i.toInt < (gI s 0 40).toInt → ∀ t, own_R s t → Q (Int64.toInt32 (gL t 3 (ix i))) t) (hd : f = 3 → i.toInt < (gI s 0 40).toInt → ∀ t, own_R s t → Q (Int64.toInt32 (gL t 4 (ix i))) t) (he : f ≠ 0 → f ≠ 1 → f ≠ 2 → f ≠ 3 → i.toInt < (gI s 0 40).toInt → Q 0 s) : calI PP 11 21 [.ref 0, .int i, .int f] s Q := by
  apply c11_in
  refine ⟨fun q => absurd ib.1 (by rw [i32_lt] at q; simp at q; omega), fun _ => ⟨fun l => ⟨fun _ => ⟨fun e => ⟨fun z => ?_, fun z => ⟨ib, ?_⟩⟩, fun e0 => ⟨fun e => ⟨fun z => ?_, fun z => ⟨ib, ?_⟩⟩, fun e1 => ⟨fun e => ?_, fun e2 => ⟨fun e => ?_, fun e3 => ?_⟩⟩⟩⟩, fun q => absurd ib.2 (by rw [i32_lt] at q; exact q)⟩, fun l => ?_⟩⟩
  all_goals rw [i32_lt] at l
  · have := ha e l; rw [if_pos z] at this; exact this
  · have := ha e l; rw [if_neg z] at this; exact this
  · have := hb e l; rw [if_pos z] at this; exact this
  · have := hb e l; rw [if_neg z] at this; exact this
  · exact own_19 s _ fun t hR => ⟨ib, hc e l t hR⟩
  · exact own_19 s _ fun t hR => ⟨ib, hd e l t hR⟩
  · exact he e0 e1 e2 e3 l
  · exact h0 l

/-- two clients: a base tickets; b tickets of a currency backed by k -/
theorem own_two {t : St} (h : own_X t) (a b k : Int32) (ha : 1 ≤ a.toInt ∧ a.toInt ≤ 512) (hb : 1 ≤ b.toInt ∧ b.toInt ≤ 512) (hk : 1 ≤ k.toInt ∧ k.toInt ≤ 512) (c40 : gI t 0 40 = 2) (c41 : gI t 0 41 = 2) (c50 : gI t 5 0 = 1) (c51 : gI t 5 1 = 1) (c60 : gI t 6 0 = 0) (c61 : gI t 6 1 = 1) (c70 : gI t 7 0 = a) (c71 : gI t 7 1 = b) (c1 : gI t 1 1 = 0) (c2 : gI t 2 1 = k) (l0 : gL t 11 0 = 0) (l1 : gL t 11 1 = 0) : gL t 20 0 = Int32.toInt64 a ∧ gL t 20 1 = Int32.toInt64 k ∧ gL t 3 0 = Int32.toInt64 a + Int32.toInt64 k ∧ gL t 4 1 = Int32.toInt64 k := by
  obtain ⟨hA, hI, z4, hW, hV, hT⟩ := h
  have x0 : ix (0 : Int32) = 0 := by decide
  have x1 : ix (1 : Int32) = 1 := by decide
  have w0 : own_hw t 16 0 = 0 := by unfold own_hw; rw [x0, c50, if_neg (by decide)]
  have w1 : own_hw t 16 1 = 1 := by unfold own_hw; rw [x1, c51, if_neg (by decide)]
  have a0 := hA 0 (by decide)
  have a1 := hA 1 (by decide)
  rw [x0, own_Ho, own_A, if_pos (by rw [c41]; decide), if_pos (by rw [c41]; decide), w0, x0, c50] at a0
  rw [x1, own_Ho, own_A, if_pos (by rw [c41]; decide), if_pos (by rw [c41]; decide), w1, x1, c51] at a1
  have u17 : ∀ j, 2 ≤ j → j < 16 → gI t 17 j = 0 := by
    intro j j1 j2
    obtain ⟨i, i0, i1, ij⟩ := own_of j2 (by decide)
    have := (hA i ⟨i0, i1⟩).2
    have ki := ix_int i0
    rw [ij, own_A, if_neg (by rw [c41, i32_lt]; simp; omega)] at this
    exact this
  have a170 : gI t 17 0 = 1 := by rw [a0.2]; decide
  have a171 : gI t 17 1 = 1 := by rw [a1.2]; decide
  have sA : ∀ (c : Int32) n, 2 + n ≤ 16 → own_sA t c (2 + n) = own_sA t c 2 := by
    intro c n
    induction n with
    | zero => intro _; rfl
    | succ n ih => intro hn; rw [← Nat.add_assoc, own_sA, if_pos (u17 _ (by omega) (by omega))]; exact ih (by omega)
  have sA0 : own_sA t 0 16 = Int32.toInt64 a := by
    rw [sA 0 14 (by decide)]; simp [own_sA, a170, a171, c60, c61, c70]
  have sA1 : own_sA t 1 16 = Int32.toInt64 b := by
    rw [sA 1 14 (by decide)]; simp [own_sA, a170, a171, c60, c61, c71]
  have sB : ∀ (c : Int32) m x n, 2 ≤ m → own_sB t c m x n = x := by
    intro c m x n hm
    induction n with
    | zero => rfl
    | succ n ih => rw [own_sB, if_neg (by rw [c40]; simp; omega)]; exact ih
  have i1 : gL t 3 1 = Int32.toInt64 b := by
    have := hI 1 (by decide)
    rw [x1, own_I, if_pos (by rw [c40]; decide), x1, sB 1 2 _ _ (by decide), sA1] at this
    exact this
  have p1 : (0 : Int64) < gL t 3 1 := by rw [i1, own_64l, Int32.toInt_toInt64]; simp; omega
  have sB0 : ∀ n, own_sB t 0 1 (Int32.toInt64 a) (n + 1) = Int32.toInt64 a + Int32.toInt64 k := by
    intro n
    induction n with
    | zero => rw [own_sB, own_sB, if_pos ⟨by rw [c40]; decide, c1, p1⟩, c2]
    | succ n ih => rw [own_sB, if_neg (by rw [c40]; simp; omega)]; exact ih
  have i0 : gL t 3 0 = Int32.toInt64 a + Int32.toInt64 k := by
    have := hI 0 (by decide)
    rw [x0, own_I, if_pos (by rw [c40]; decide), x0, sA0] at this
    rw [this]; exact sB0 6
  have q1 : gL t 4 1 = Int32.toInt64 k := by
    have := hW 1 (by decide) (by decide)
    rw [x1, own_W, if_pos ⟨by rw [c40]; decide, by rw [x1]; intro q; rw [q] at p1; exact absurd p1 (by decide)⟩, x1, if_pos c1, c2] at this
    exact this
  have v0 : gL t 18 0 = Int32.toInt64 a := by rw [hV 0 (by decide), own_V, if_neg (by rw [a170]; decide), if_pos c60, c70]
  have v1 : gL t 18 1 = Int32.toInt64 k := by
    rw [hV 1 (by decide), own_V, if_neg (by rw [a171]; decide), if_neg (by rw [c61]; decide), c61, x1, if_pos ⟨by decide, by decide, p1⟩, c71, q1, i1]
    have m : (Int32.toInt64 b * Int32.toInt64 k).toInt = b.toInt * k.toInt := by
      have m0 := Int.mul_nonneg (a := b.toInt) (b := k.toInt) (by omega) (by omega)
      have m1 : b.toInt * k.toInt ≤ 512 * 512 := Int.mul_le_mul (by omega) (by omega) (by omega) (by decide)
      rw [own_64m] <;> rw [Int32.toInt_toInt64, Int32.toInt_toInt64] <;> omega
    have m0 := Int.mul_nonneg (a := b.toInt) (b := k.toInt) (by omega) (by omega)
    rw [own_64e, own_64d (by omega) (by rw [Int32.toInt_toInt64]; omega), m, Int32.toInt_toInt64, Int32.toInt_toInt64]
    exact Int.mul_ediv_cancel_left _ (by omega)
  have Bs : ∀ (c : Int32) n, 2 + n ≤ 16 → own_Bs t c (2 + n) = own_Bs t c 2 := by
    intro c n
    induction n with
    | zero => intro _; rfl
    | succ n ih => intro hn; rw [← Nat.add_assoc, own_Bs, if_neg (fun q => q.1 (u17 _ (by omega) (by omega)))]; exact ih (by omega)
  have b0 : own_Bs t 0 16 = Int32.toInt64 a := by rw [Bs 0 14 (by decide)]; simp [own_Bs, a170, a171, a0.1, a1.1, v0]
  have b1 : own_Bs t 1 16 = Int32.toInt64 k := by rw [Bs 1 14 (by decide)]; simp [own_Bs, a170, a171, a0.1, a1.1, v1]
  have t0 := (hT 0 (by decide)).2
  have t1 := (hT 1 (by decide)).2
  rw [x0, own_T, x0, if_pos ⟨by rw [c41]; decide, c50⟩, b0, l0, Int64.add_zero, if_neg (by rw [own_64e, Int32.toInt_toInt64]; simp; omega)] at t0
  rw [x1, own_T, x1, if_pos ⟨by rw [c41]; decide, c51⟩, b1, l1, Int64.add_zero, if_neg (by rw [own_64e, Int32.toInt_toInt64]; simp; omega)] at t1
  exact ⟨t0, t1, i0, q1⟩
def own_Lp (s : St) (q a b k : Int32) (p0 p1 : Int64) (n0 n1 d : Int32) : Prop := gI s 0 39 = q ∧ gI s 0 40 = 2 ∧ gI s 0 41 = 2 ∧ gI s 0 42 = 2 ∧ gI s 0 43 = d ∧ gI s 5 0 = 1 ∧ gI s 5 1 = 1 ∧ gI s 6 0 = 0 ∧ gI s 6 1 = 1 ∧ gI s 7 0 = a ∧ gI s 7 1 = b ∧ gI s 1 1 = 0 ∧ gI s 2 1 = k ∧ gL s 11 0 = 0 ∧ gL s 11 1 = 0 ∧ gL s 12 0 = p0 ∧ gL s 12 1 = p1 ∧ gL s 13 0 = 1048576 / Int32.toInt64 a ∧ gL s 13 1 = 1048576 / Int32.toInt64 k ∧ gI s 10 0 = n0 ∧ gI s 10 1 = n1
theorem own_Lp_R {s t : St} {q a b k : Int32} {p0 p1 : Int64} {n0 n1 d : Int32} (h : own_Lp s q a b k p0 p1 n0 n1 d) (r : own_R s t) : own_Lp t q a b k p0 p1 n0 n1 d := by
  have i : ∀ c j, c < 3 ∨ (5 ≤ c ∧ c ≤ 15) ∨ c = 21 → gI t c j = gI s c j := fun c j hc => r.1.1 c j (own_nD hc)
  have l : ∀ c j, c < 3 ∨ (5 ≤ c ∧ c ≤ 15) ∨ c = 21 → gL t c j = gL s c j := fun c j hc => r.1.2 c j (own_nD hc)
  unfold own_Lp at *
  rw [i 0 39 (by omega), i 0 40 (by omega), i 0 41 (by omega), i 0 42 (by omega), i 0 43 (by omega), i 5 0 (by omega), i 5 1 (by omega), i 6 0 (by omega), i 6 1 (by omega), i 7 0 (by omega), i 7 1 (by omega), i 1 1 (by omega), i 2 1 (by omega), l 11 0 (by omega), l 11 1 (by omega), l 12 0 (by omega), l 12 1 (by omega), l 13 0 (by omega), l 13 1 (by omega), i 10 0 (by omega), i 10 1 (by omega)]
  exact h
theorem own_Lp_two {s t : St} {q a b k : Int32} {p0 p1 : Int64} {n0 n1 d : Int32} (ha : 1 ≤ a.toInt ∧ a.toInt ≤ 512) (hb : 1 ≤ b.toInt ∧ b.toInt ≤ 512) (hk : 1 ≤ k.toInt ∧ k.toInt ≤ 512) (h : own_Lp s q a b k p0 p1 n0 n1 d) (r : own_R s t) : gL t 20 0 = Int32.toInt64 a ∧ gL t 20 1 = Int32.toInt64 k ∧ gL t 3 0 = Int32.toInt64 a + Int32.toInt64 k ∧ gL t 4 1 = Int32.toInt64 k := by
  obtain ⟨h1, h2, h3, h4, h5, h6, h7, h8, h9, h10, h11, h12, h13, h14, h15, h16, h17, h18, h19, h20, h21⟩ := own_Lp_R h r
  exact own_two r.2 a b k ha hb hk h2 h3 h6 h7 h8 h9 h10 h11 h12 h13 h14 h15
theorem own_sdb {a : Int32} (ha : 1 ≤ a.toInt) : 0 ≤ (1048576 / Int32.toInt64 a).toInt ∧ (1048576 / Int32.toInt64 a).toInt ≤ 1048576 := by
  rw [own_64d (by decide) (by rw [Int32.toInt_toInt64]; omega), Int32.toInt_toInt64]
  have e : (1048576 : Int64).toInt = 1048576 := by decide
  rw [e]
  exact ⟨Int.ediv_nonneg (by decide) (by omega), Int.ediv_le_self _ (by decide)⟩
theorem own_sde {a : Int32} (ha : 1 ≤ a.toInt) : Int32.toInt64 (1048576 / a) = 1048576 / Int32.toInt64 a := by
  have b := own_sdb ha
  rw [← own_divx a ha, own_64e, Int32.toInt_toInt64, own_32 (by omega) (by omega)]
/-- one full dispatch -/
theorem own_disp {s : St} {q a b k : Int32} {p0 p1 : Int64} {n0 n1 d : Int32} (hq : 1 ≤ q.toInt) (h : own_Lp s q a b k p0 p1 n0 n1 d) (Q : Int32 → St → Prop) (h0 : ¬ p1 < p0 → ∀ W, own_Lp W q a b k (p0 + 1048576 / Int32.toInt64 a) p1 (n0 + 1) n1 (d + 1) → Q 0 W) (h1 : p1 < p0 → ∀ W, own_Lp W q a b k p0 (p1 + 1048576 / Int32.toInt64 k) n0 (n1 + 1) (d + 1) → Q 1 W) : calI PP 9 21 [.ref 0, .int q] s Q := by
  obtain ⟨g1, g2, g3, g4, g5, g6, g7, g8, g9, g10, g11, g12, g13, g14, g15, g16, g17, g18, g19, g20, g21⟩ := h
  have x0 : ix (0 : Int32) = 0 := by decide
  have x1 : ix (1 : Int32) = 1 := by decide
  have r0 : own_Rn s 0 := ⟨by decide, by rw [g3]; decide, g6⟩
  have r1 : own_Rn s 1 := ⟨by decide, by rw [g3]; decide, g7⟩
  refine own_9 s q _ fun v W p => ?_
  rcases p with ⟨z, _⟩ | ⟨_, _, z, _⟩ | ⟨_, _, pk, t, hR, hp⟩
  · exact absurd ⟨hq, by rw [g1]; omega⟩ z
  · exact absurd r0 (z 0)
  have q0 : (q - q).toInt = 0 := by rw [i32_sub] <;> omega
  have t39 : gI t 0 39 = q := by rw [hR.1.1 _ _ (own_nD (by omega))]; simp [own_ds, gI_sI, gI_sL, g1]
  have nc : ∀ n, own_nc t n q = 0 := by
    intro n
    have e : q - q = 0 := by rw [i32_eq, q0]; rfl
    have z : gL t 19 n * Int32.toInt64 0 = 0 := by
      have : Int32.toInt64 0 = 0 := by decide
      rw [this, Int64.mul_zero]
    rw [own_nc, t39, e, z, own_64e, own_64d (by decide) (by rw [Int32.toInt_toInt64]; omega)]
    simp
  have v01 : v = 0 ∨ v = 1 := by
    have a1 := pk.1
    have a2 := pk.2.2.1.2.1
    have kv := ix_int a1
    rw [g3] at a2
    simp at a2
    rw [i32_eq, i32_eq]; simp; omega
  have Rg : ∀ n c j, own_R (own_ds s n) t → (c < 3 ∨ (5 ≤ c ∧ c ≤ 15) ∨ c = 21) → gI t c j = gI (own_ds s n) c j := fun n c j r hc => r.1.1 c j (own_nD hc)
  have Lg : ∀ n c j, own_R (own_ds s n) t → (c < 3 ∨ (5 ≤ c ∧ c ≤ 15) ∨ c = 21) → gL t c j = gL (own_ds s n) c j := fun n c j r hc => r.1.2 c j (own_nD hc)
  rcases v01 with e | e
  · subst e
    rw [x0] at hp hR
    rcases hp with ⟨_, _, eW⟩ | ⟨z, _⟩
    · rw [nc] at eW
      refine h0 ?_ W ?_
      · have := pk.2.2.2 1 (by decide) r1
        rw [x0, g16, g17] at this
        rw [own_64l]; omega
      · subst eW
        refine ⟨?_, ?_, ?_, ?_, ?_, ?_, ?_, ?_, ?_, ?_, ?_, ?_, ?_, ?_, ?_, ?_, ?_, ?_, ?_, ?_, ?_⟩
        all_goals simp [gI_sL, gL_sL]
        all_goals first | (rw [Rg 0 _ _ hR (by omega)]; simp [own_ds, gI_sI, gI_sL, gL_sI, gL_sL, *]) | (rw [Lg 0 _ _ hR (by omega)]; simp [own_ds, gI_sI, gI_sL, gL_sI, gL_sL, *])
    · exact absurd ⟨g14, nc _⟩ z
  · subst e
    rw [x1] at hp hR
    rcases hp with ⟨_, _, eW⟩ | ⟨z, _⟩
    · rw [nc] at eW
      refine h1 ?_ W ?_
      · have := pk.2.2.2 0 (by decide) r0
        rw [x1, g16, g17] at this
        rw [own_64l]; omega
      · subst eW
        refine ⟨?_, ?_, ?_, ?_, ?_, ?_, ?_, ?_, ?_, ?_, ?_, ?_, ?_, ?_, ?_, ?_, ?_, ?_, ?_, ?_, ?_⟩
        all_goals simp [gI_sL, gL_sL]
        all_goals first | (rw [Rg 1 _ _ hR (by omega)]; simp [own_ds, gI_sI, gI_sL, gL_sI, gL_sL, *]) | (rw [Lg 1 _ _ hR (by omega)]; simp [own_ds, gI_sI, gI_sL, gL_sI, gL_sL, *])
    · exact absurd ⟨g15, nc _⟩ z
theorem own_511 (v : Int32) : 1 ≤ ((v &&& 511) + 1).toInt ∧ ((v &&& 511) + 1).toInt ≤ 512 := by
  have := Jvm.Kit.i32_mask v 511 (k := 9) (by decide) (by decide)
  have e : ((v &&& 511) + 1).toInt = (v &&& 511).toInt + 1 := by rw [i32_add] <;> simp <;> omega
  omega
theorem own_loop (q a b k : Int32) (hq : 1 ≤ q.toInt ∧ q.toInt ≤ 16) (ha : 1 ≤ a.toInt ∧ a.toInt ≤ 512) (hb : 1 ≤ b.toInt ∧ b.toInt ≤ 512) (hk : 1 ≤ k.toInt ∧ k.toInt ≤ 512) (s : St) (h : own_Lp s q a b k 0 (1048576 / Int32.toInt64 k) 0 0 0) : wplI PP QQ none 0 lm0 112 [none, none, none, none, some (.int a), none, some (.int k), some (.int q), some (.ref 1), none, none, none, none, none, none, none, none, none, none, none, none, none, none, none, none, none, none, none, none, none, none, none, none] [.int 1] (W1 s) (fun v _ => v = 1) := by
  apply l0_112
  refine ⟨by rw [i32_eq]; simp; omega, by rw [i32_eq]; simp; omega, ?_⟩
  rw [own_sde ha.1, own_sde hk.1]
  have sa := own_sdb ha.1
  have sk := own_sdb hk.1
  have e0 : (0 : Int64).toInt = 0 := by decide
  refine loop_up (F := fun i => ∀ s p0 p1 n0 n1, own_Lp s q a b k p0 p1 n0 n1 i → (0 ≤ p0.toInt ∧ p0.toInt ≤ 1048576 * i.toInt) → (0 ≤ p1.toInt ∧ p1.toInt ≤ 1048576 * (i.toInt + 1)) → wplI PP QQ none 0 lm0 146 [none, none, none, none, some (.int a), none, some (.int k), some (.int q), some (.ref 1), none, none, none, some (.int 1), some (.long (1048576 / Int32.toInt64 a)), none, some (.long (1048576 / Int32.toInt64 k)), none, some (.long p0), none, some (.long p1), none, some (.int n0), some (.int n1), some (.int i), none, none, none, none, none, none, none, none, none] [] (W1 s) (fun v _ => v = 1)) 8 (by decide) (fun i i0 i1 e ih s p0 p1 n0 n1 h b0 b1 => ?_) (fun i hi s p0 p1 n0 n1 h b0 b1 => ?_) 0 (by decide) (by decide) s 0 _ 0 0 h (by decide) (by simp only [Int32.toInt_zero]; omega)
  · refine l0_146 _ _ _ _ _ _ _ _ _ _ _ _ ⟨fun _ => own_disp hq.1 h _ (fun c W hW => ?_) (fun c W hW => ?_), fun z => absurd (by rw [i32_lt]; exact i1) z⟩
    · have c' : ¬ 0 < Jvm.Free.XT.cmpL p0 p1 := fun z => c (cmpL_gt.mp z)
      intro m1 e1 m2 e2 m3 e3 m4 e4 m5 e5
      rw [if_neg c'] at e1 e2 e3 e4 e5
      have e1 : m1 = 1 := by rw [e1]; decide
      subst e1 e2 e3 e4 e5
      have ea : (p0 + 1048576 / Int32.toInt64 a).toInt = p0.toInt + (1048576 / Int32.toInt64 a).toInt := own_64a (by omega) (by omega)
      exact ih W _ _ _ _ hW (by omega) (by omega)
    · have c' : 0 < Jvm.Free.XT.cmpL p0 p1 := cmpL_gt.mpr c
      intro m1 e1 m2 e2 m3 e3 m4 e4 m5 e5
      rw [if_pos c'] at e1 e2 e3 e4 e5
      have e1 : m1 = 1 := by rw [e1]; decide
      subst e1 e2 e3 e4 e5
      have ea : (p1 + 1048576 / Int32.toInt64 k).toInt = p1.toInt + (1048576 / Int32.toInt64 k).toInt := own_64a (by omega) (by omega)
      exact ih W _ _ _ _ hW (by omega) (by omega)
  · have i8 : i = 8 := by rw [i32_eq, hi]; rfl
    subst i8
    have x0 : ix (0 : Int32) = 0 := by decide
    have x1 : ix (1 : Int32) = 1 := by decide
    have ib0 : inb 16 (0 : Int32) := by decide
    have ib1 : inb 16 (1 : Int32) := by decide
    refine l0_146 _ _ _ _ _ _ _ _ _ _ _ _ ⟨fun z => absurd z (by decide), fun _ => ?_⟩
    have run : ∀ u, own_Lp u q a b k p0 p1 n0 n1 8 → own_Rn u 0 ∧ own_Rn u 1 ∧ gI u 0 41 = 2 := fun u hu => by
      obtain ⟨g1, g2, g3, g4, g5, g6, g7, _⟩ := hu
      exact ⟨⟨by decide, by rw [g3]; decide, g6⟩, ⟨by decide, by rw [g3]; decide, g7⟩, g3⟩
    refine own_10t s 0 ib0 _ (fun z => absurd (run s h).1 z) fun _ t1 r1 => ?_
    have h1 := own_Lp_R h r1
    have w1 := own_Lp_two ha hb hk h r1
    refine own_10t t1 1 ib1 _ (fun z => absurd (run t1 h1).2.1 z) fun _ t2 r2 => ?_
    have h2 := own_Lp_R h1 r2
    have w2 := own_Lp_two ha hb hk h1 r2
    have l0 : (0 : Int32).toInt < (gI t2 0 41).toInt := by rw [(run t2 h2).2.2]; decide
    have l1 : (1 : Int32).toInt < (gI t2 0 41).toInt := by rw [(run t2 h2).2.2]; decide
    obtain ⟨g1, g2, g3, g4, g5, g6, g7, g8, g9, g10, g11, g12, g13, g14, g15, g16, g17, g18, g19, g20, g21⟩ := h2
    have h2 : own_Lp t2 q a b k p0 p1 n0 n1 8 := ⟨g1, g2, g3, g4, g5, g6, g7, g8, g9, g10, g11, g12, g13, g14, g15, g16, g17, g18, g19, g20, g21⟩
    refine own_10 t2 0 8 ib0 (by decide) (by decide) _ (own_10 t2 1 8 ib1 (by decide) (by decide) _ (own_10 t2 0 6 ib0 (by decide) (by decide) _ (l0_282 _ _ _ _ _ _ _ _ _ _ _ _ _ (own_10 t2 1 6 ib1 (by decide) (by decide) _ ?_))))
    apply c12_in
    refine ⟨fun e => absurd e (by decide), fun e => absurd e (by decide), fun e => absurd e (by decide), fun e => absurd e (by decide), fun _ => ?_, fun e => absurd e (by decide)⟩
    apply c12_in
    refine ⟨fun _ => ?_, fun e => absurd e (by decide), fun e => absurd e (by decide), fun e => absurd e (by decide), fun e => absurd e (by decide), fun e => absurd e (by decide)⟩
    refine own_11 t2 0 2 (by decide) _ (fun z => absurd (by rw [g2]; decide) z) (fun e => absurd e (by decide)) (fun e => absurd e (by decide)) (fun _ _ t3 r3 => ?_) (fun e => absurd e (by decide)) (fun _ _ z => absurd rfl z)
    have h3 := own_Lp_R h2 r3
    have w3 := own_Lp_two ha hb hk h2 r3
    refine own_11 t3 1 3 (by decide) _ (fun z => absurd (by rw [h3.2.1]; decide) z) (fun e => absurd e (by decide)) (fun e => absurd e (by decide)) (fun e => absurd e (by decide)) (fun _ _ t4 r4 => ?_) (fun _ _ _ z => absurd rfl z)
    have w4 := own_Lp_two ha hb hk h3 r4
    have ba : ∀ x : Int32, Int64.toInt32 (Int32.toInt64 x) = x := fun x => by
      have r := rng32 x
      rw [i32_eq, own_32] <;> rw [Int32.toInt_toInt64] <;> omega
    have pe : ∀ p : Int64, 0 ≤ p.toInt → p.toInt ≤ 1048576 * 9 → Int32.toInt64 (Int64.toInt32 p) = p := fun p u0 u1 => by
      rw [own_64e, Int32.toInt_toInt64, own_32] <;> omega
    have e8 : (8 : Int32).toInt = 8 := by decide
    rw [e8] at b0 b1
    have sm : Int64.toInt32 (Int32.toInt64 a + Int32.toInt64 k) = a + k := by
      have s1 : (Int32.toInt64 a + Int32.toInt64 k).toInt = a.toInt + k.toInt := by rw [own_64a] <;> rw [Int32.toInt_toInt64, Int32.toInt_toInt64] <;> omega
      rw [i32_eq, own_32 (by omega) (by omega), s1, i32_add (by omega) (by omega)]
    rw [if_pos l0, if_pos l1, if_pos l0, if_pos l1, x0, x1, w1.1, w2.2.1, w3.2.2.1, w4.2.2.2, g4, g5, ba, ba, sm]
    have f8 : ∀ j, own_fd t2 8 j = gI t2 10 j := fun j => by simp [own_fd]
    have f6 : ∀ j, own_fd t2 6 j = Int64.toInt32 (gL t2 12 j) := fun j => by simp [own_fd]
    rw [f8, f8, f6, f6, g16, g17, g20, g21, pe p0 (by omega) (by omega), pe p1 (by omega) (by omega)]
    refine ⟨fun z => absurd z (by decide), fun _ => ⟨fun _ => ⟨fun _ => ⟨fun _ => ⟨fun _ => ⟨fun _ => ⟨fun _ => ⟨fun _ => ⟨fun _ => ⟨fun _ => ⟨fun _ => rfl, fun z => absurd rfl z⟩, fun z => absurd rfl z⟩, fun z => absurd rfl z⟩, fun z => absurd rfl z⟩, fun z => absurd (cmpL_eq.mpr rfl) z⟩, fun z => absurd (cmpL_eq.mpr rfl) z⟩, fun z => absurd rfl z⟩, fun z => absurd rfl z⟩, fun z => absurd rfl z⟩, fun z => absurd rfl z⟩⟩
theorem law_ok (i0 i1 i2 i3 : Int32) : lalI PP QQ none 0 [.int i0, .int i1, .int i2, .int i3] W0 (fun v _ => v = 1) := by
  apply l0_in
  intro mq eq
  have ha := own_511 i1
  have hb := own_511 i2
  have hk := own_511 i3
  generalize (i1 &&& 511) + 1 = a at *
  generalize (i2 &&& 511) + 1 = b at *
  generalize (i3 &&& 511) + 1 = k at *
  refine own_0 i0 _ fun s hs h41 h40 h42 h43 hq => ?_
  have q39 : gI s 0 39 = mq := by
    rw [i32_eq, hq, eq]
    have e1 : (1 : Int32).toInt = 1 := by decide
    have e16 : (16 : Int32).toInt = 16 := by decide
    by_cases z : i0 < 1
    · rw [if_pos z]; rw [i32_lt, e1] at z; rw [if_pos z, e1]
    · rw [if_neg z]; rw [i32_lt, e1] at z; rw [if_neg z]
      by_cases y : 16 < i0
      · rw [if_pos y]; rw [i32_lt, e16] at y; rw [if_pos y, e16]
      · rw [if_neg y]; rw [i32_lt, e16] at y; rw [if_neg y]
  have hq' := hs.g.q
  rw [q39] at hq'
  have x0 : ix (0 : Int32) = 0 := by decide
  have x1 : ix (1 : Int32) = 1 := by decide
  refine own_2 s 0 k _ fun v1 A p => ?_
  have iA := own_k2 hs p
  rcases p with ⟨z, _⟩ | ⟨_, _, z, _⟩ | ⟨_, _, _, _, z, _⟩ | ⟨_, _, _, _, _, ev1, eA⟩
  · exact absurd ⟨by decide, by rw [h40]; decide⟩ z
  · exact absurd ⟨hk.1, by omega⟩ z
  · rw [h40] at z; exact absurd z (by decide)
  rw [h40, x1] at eA
  rw [h40] at ev1
  have A39 : gI A 0 39 = mq := by rw [eA]; simp [gI_sI, q39]
  have A40 : gI A 0 40 = 2 := by rw [eA]; simp [gI_sI]
  have A41 : gI A 0 41 = 0 := by rw [eA]; simp [gI_sI, h41]
  have A42 : gI A 0 42 = 0 := by rw [eA]; simp [gI_sI, h42]
  have A43 : gI A 0 43 = 0 := by rw [eA]; simp [gI_sI, h43]
  have A1 : gI A 1 1 = 0 := by rw [eA]; simp [gI_sI]
  have A2 : gI A 2 1 = k := by rw [eA]; simp [gI_sI]
  clear eA
  refine own_3 A (by rw [A41]; decide) 0 a _ fun v2 B p => ?_
  have iB := own_k3 iA p
  rcases p with ⟨z, _⟩ | ⟨_, _, z, _⟩ | ⟨_, _, _, _, z, _⟩ | ⟨_, _, _, _, _, ev2, u, hu, hE⟩
  · exact absurd ⟨by decide, by rw [A40]; decide⟩ z
  · exact absurd ⟨ha.1, by omega⟩ z
  · rw [A41] at z; exact absurd z (by decide)
  rw [A41] at ev2 hE
  rw [x0] at hE
  have wf := own_Ep_Wf hE
  have ui : ∀ c j, c ≤ 20 → gI u c j = gI A c j := fun c j hc => hu.1.1 c j (by omega)
  have Bi : ∀ c j, c ≠ 9 → (c < 3 ∨ (5 ≤ c ∧ c ≤ 15) ∨ c = 21) → (c = 0 → j ≠ 42) → gI B c j = gI (own_add u 0 0 a) c j := fun c j a1 a2 a3 => wf.i c j a1 (own_nD a2) a3
  have B39 : gI B 0 39 = mq := by rw [Bi _ _ (by decide) (by omega) (by omega)]; simp [own_add, gI_sI, gI_sL, ui, A39]
  have B40 : gI B 0 40 = 2 := by rw [Bi _ _ (by decide) (by omega) (by omega)]; simp [own_add, gI_sI, gI_sL, ui, A40]
  have B41 : gI B 0 41 = 1 := by rw [Bi _ _ (by decide) (by omega) (by omega)]; simp [own_add, gI_sI, gI_sL, ui, A41]
  have B42 : gI B 0 42 = 1 := by rw [wf.e]; simp [own_add, gI_sI, gI_sL, ui, A42]
  have B43 : gI B 0 43 = 0 := by rw [Bi _ _ (by decide) (by omega) (by omega)]; simp [own_add, gI_sI, gI_sL, ui, A43]
  have B1 : gI B 1 1 = 0 := by rw [Bi _ _ (by decide) (by omega) (by omega)]; simp [own_add, gI_sI, gI_sL, ui, A1]
  have B2 : gI B 2 1 = k := by rw [Bi _ _ (by decide) (by omega) (by omega)]; simp [own_add, gI_sI, gI_sL, ui, A2]
  have B5 : gI B 5 0 = 1 := by rw [Bi _ _ (by decide) (by omega) (by omega)]; simp [own_add, gI_sI, gI_sL]
  have B6 : gI B 6 0 = 0 := by rw [Bi _ _ (by decide) (by omega) (by omega)]; simp [own_add, gI_sI, gI_sL]
  have B7 : gI B 7 0 = a := by rw [Bi _ _ (by decide) (by omega) (by omega)]; simp [own_add, gI_sI, gI_sL]
  have B10 : gI B 10 0 = 0 := by rw [Bi _ _ (by decide) (by omega) (by omega)]; simp [own_add, gI_sI, gI_sL]
  have B11 : gL B 11 0 = 0 := by rw [wf.l]; simp [own_add, gL_sI, gL_sL]
  clear Bi wf hE ui hu
  refine own_3 B (by rw [B41]; decide) 1 b _ fun v3 C p => ?_
  have iC := own_k3 iB p
  rcases p with ⟨z, _⟩ | ⟨_, _, z, _⟩ | ⟨_, _, _, _, z, _⟩ | ⟨_, _, _, _, _, ev3, w, hw, hE⟩
  · exact absurd ⟨by decide, by rw [B40]; decide⟩ z
  · exact absurd ⟨hb.1, by omega⟩ z
  · rw [B41] at z; exact absurd z (by decide)
  rw [B41] at ev3 hE
  rw [x1] at hE
  have wf := own_Ep_Wf hE
  have wi : ∀ c j, c ≤ 20 → gI w c j = gI B c j := fun c j hc => hw.1.1 c j (by omega)
  have wl : ∀ c j, c ≤ 20 → gL w c j = gL B c j := fun c j hc => hw.1.2 c j (by omega)
  have Ci : ∀ c j, c ≠ 9 → (c < 3 ∨ (5 ≤ c ∧ c ≤ 15) ∨ c = 21) → (c = 0 → j ≠ 42) → gI C c j = gI (own_add w 1 1 b) c j := fun c j a1 a2 a3 => wf.i c j a1 (own_nD a2) a3
  have C39 : gI C 0 39 = mq := by rw [Ci _ _ (by decide) (by omega) (by omega)]; simp [own_add, gI_sI, gI_sL, wi, B39]
  have C40 : gI C 0 40 = 2 := by rw [Ci _ _ (by decide) (by omega) (by omega)]; simp [own_add, gI_sI, gI_sL, wi, B40]
  have C41 : gI C 0 41 = 2 := by rw [Ci _ _ (by decide) (by omega) (by omega)]; simp [own_add, gI_sI, gI_sL, wi, B41]
  have C42 : gI C 0 42 = 2 := by rw [wf.e]; simp [own_add, gI_sI, gI_sL, wi, B42]
  have C43 : gI C 0 43 = 0 := by rw [Ci _ _ (by decide) (by omega) (by omega)]; simp [own_add, gI_sI, gI_sL, wi, B43]
  have C1 : gI C 1 1 = 0 := by rw [Ci _ _ (by decide) (by omega) (by omega)]; simp [own_add, gI_sI, gI_sL, wi, B1]
  have C2 : gI C 2 1 = k := by rw [Ci _ _ (by decide) (by omega) (by omega)]; simp [own_add, gI_sI, gI_sL, wi, B2]
  have C50 : gI C 5 0 = 1 := by rw [Ci _ _ (by decide) (by omega) (by omega)]; simp [own_add, gI_sI, gI_sL, wi, B5]
  have C51 : gI C 5 1 = 1 := by rw [Ci _ _ (by decide) (by omega) (by omega)]; simp [own_add, gI_sI, gI_sL]
  have C60 : gI C 6 0 = 0 := by rw [Ci _ _ (by decide) (by omega) (by omega)]; simp [own_add, gI_sI, gI_sL, wi, B6]
  have C61 : gI C 6 1 = 1 := by rw [Ci _ _ (by decide) (by omega) (by omega)]; simp [own_add, gI_sI, gI_sL]
  have C70 : gI C 7 0 = a := by rw [Ci _ _ (by decide) (by omega) (by omega)]; simp [own_add, gI_sI, gI_sL, wi, B7]
  have C71 : gI C 7 1 = b := by rw [Ci _ _ (by decide) (by omega) (by omega)]; simp [own_add, gI_sI, gI_sL]
  have C100 : gI C 10 0 = 0 := by rw [Ci _ _ (by decide) (by omega) (by omega)]; simp [own_add, gI_sI, gI_sL, wi, B10]
  have C101 : gI C 10 1 = 0 := by rw [Ci _ _ (by decide) (by omega) (by omega)]; simp [own_add, gI_sI, gI_sL]
  have C110 : gL C 11 0 = 0 := by rw [wf.l]; simp [own_add, gL_sI, gL_sL, wl, B11]
  have C111 : gL C 11 1 = 0 := by rw [wf.l]; simp [own_add, gL_sI, gL_sL]
  have agC := own_Wf_ag wf
  obtain ⟨T, m, hR, hM, e1, e2, e3, e4, e5, e6⟩ := hE
  have aT : own_ag C T := own_ag_tr (own_ag_sy agC) (own_R_ag hR)
  have tw := own_two hR.2 a b k ha hb hk (by rw [aT.n, C40]) (by rw [aT.m, C41]) (by rw [aT.f5, C50]) (by rw [aT.f5, C51]) (by rw [aT.f6, C60]) (by rw [aT.f6, C61]) (by rw [aT.f7, C70]) (by rw [aT.f7, C71]) (by rw [aT.f1, C1]) (by rw [aT.f2, C2]) (by rw [aT.l11, C110]) (by rw [aT.l11, C111])
  have C130 : gL C 13 0 = 1048576 / Int32.toInt64 a := by rw [iC.s T hR.2 aT 0 ⟨by decide, by rw [C41]; decide, C50⟩, tw.1]
  have C131 : gL C 13 1 = 1048576 / Int32.toInt64 k := by rw [iC.s T hR.2 aT 1 ⟨by decide, by rw [C41]; decide, C51⟩, tw.2.1]
  have T210 : gI T 21 0 = 1 := by
    rw [hR.1.1 _ _ (own_nD (by omega))]
    have : gI (own_add w 1 1 b) 21 0 = gI w 21 0 := by simp [own_add, gI_sI, gI_sL]
    rw [this, own_sn21 hw 0 (by decide), if_pos ⟨by rw [B41]; decide, B5⟩]
  have T21 : ∀ j, 1 ≤ j → j < 16 → gI T 21 j = 0 := fun j j1 j2 => by
    rw [hR.1.1 _ _ (own_nD (by omega))]
    have : gI (own_add w 1 1 b) 21 j = gI w 21 j := by simp [own_add, gI_sI, gI_sL]
    rw [this, own_sn21 hw j j2, if_neg (by rw [B41]; simp; omega)]
  have em : m = gL T 12 0 := by
    rcases hM.2 with ⟨i, ib, hi, ei⟩ | ⟨z, _⟩
    · have ki := ix_int ib.1
      have : i.toInt < (16 : Int) := ib.2
      by_cases y : ix i = 0
      · rw [y] at ei; exact ei.symm
      · exact absurd (T21 (ix i) (by omega) (by omega)) hi
    · have := z 0 (by decide); rw [x0, T210] at this; exact absurd this (by decide)
  have T5 : ∀ j, gI T 5 j = gI C 5 j := aT.f5
  have C120 : gL C 12 0 = 0 := by
    have q := (e5 0 (by decide) (by rw [aT.m, C41]; decide)).1
    rw [x0, own_np, x0, if_neg (by rw [T210]; decide), T5, C50, if_pos rfl, em, Int64.sub_self, Int64.zero_mul] at q
    rw [q]
    split
    · rename_i y; rw [own_64e, own_64d (by decide) (by rw [own_64l] at y; simpa using y)]; simp
    · rfl
  have T151 : gL T 15 1 = 0 := by rw [hR.1.2 _ _ (own_nD (by omega))]; simp [own_add, gL_sI, gL_sL]
  have C121 : gL C 12 1 = 1048576 / Int32.toInt64 k := by
    have q := (e5 1 (by decide) (by rw [aT.m, C41]; decide)).1
    rw [x1, own_np, x1, if_pos (T21 1 (by decide) (by decide)), T5, C51, if_pos rfl, T151, if_neg (by decide), own_sd, x1, T5, C51, tw.2.1, if_pos ⟨rfl, by rw [own_64l, Int32.toInt_toInt64]; simp; omega⟩] at q
    exact q
  intro m15 e15
  have e15 : m15 = 1 := by rw [e15, ev1, ev2, ev3]; decide
  subst e15
  exact own_loop mq a b k hq' ha hb hk C ⟨C39, C40, C41, C42, C43, C50, C51, C60, C61, C70, C71, C1, C2, C110, C111, C120, C121, C130, C131, C100, C101⟩
theorem comes_1 {Post : Tables → Env → Array Value → State → Outcome → State → Prop} (hpost : ∀ tb e args s v u, (limb_1_1.after args s (.returned v) u = true ∧ limb_1_2.after args s (.returned v) u = true ∧ True) → FrameEnd s (.returned v) u (Jvm.fieldLocs frame_1_writes args s ++ Jvm.arrayLocs frame_1_arrays args s ++ Jvm.staticLocs frame_1_statics s) 56 768 → Post tb e args s (.returned v) u) :
    ArmFor flags0 classFile x code maxLocals ret World_1 tables_1 room_1 Calls_1 rest_1 Pre_1 Post := by
  intro l hfl _ _ p e ha hc hk s m args below hf hA hF happ hP
  obtain ⟨hcalls, hrest, hpre⟩ := hP
  obtain ⟨-, -, -, hnamed, -, -, -, hat⟩ := (Spec.applies_iff hf).mp happ
  obtain ⟨hg, hn⟩ := and_e (Cond.before_iff.mp (show (Jvm.Cond.and given_1 narrow_1).before args s = true from hpre))
  obtain ⟨h1, g0⟩ := and_e hg
  obtain ⟨w0, w1, w2, w3, rfl⟩ : ∃ w0 w1 w2 w3 : Value, args = #[w0, w1, w2, w3] := by
    have hs : args.size = 4 := by simpa [Cond.value, given_1] using h1
    obtain ⟨L⟩ := args
    match L, hs with
    | [w0, w1, w2, w3], _ => exact ⟨w0, w1, w2, w3, rfl⟩
  have hw := fun d (hd : d ∈ tables_1) => atoms_spec (ws := Jvm.Cond.code x code maxLocals ret :: tables_1) hat d (List.mem_cons_of_mem _ hd)
  have hfit : Fit s := fun {y c} hc i hi => by
    obtain ⟨ha, rfl⟩ := Array.getElem?_eq_some_iff.mp hc
    have q := List.all_eq_true.mp ((Array.all_eq_true_iff_forall_mem.mp hF) _ (Array.getElem_mem ha)) i (List.mem_range.mpr hi)
    simpa [Array.getElem?_eq_getElem hi] using q
  obtain ⟨q0, g1⟩ := and_e g0
  obtain ⟨i0, e0⟩ := is_v q0
  obtain rfl : w0 = (.int i0) := Option.some.inj e0
  obtain ⟨q1, g2⟩ := and_e g1
  obtain ⟨i1, e1⟩ := is_v q1
  obtain rfl : w1 = (.int i1) := Option.some.inj e1
  obtain ⟨q2, g3⟩ := and_e g2
  obtain ⟨i2, e2⟩ := is_v q2
  obtain rfl : w2 = (.int i2) := Option.some.inj e2
  have q3 := g3
  obtain ⟨i3, e3⟩ := is_v q3
  obtain rfl : w3 = (.int i3) := Option.some.inj e3
  obtain ⟨f, w0, hr⟩ := law_run (law_ok i0 i1 i2 i3) (me := lm0) rfl
  have M : MetFree l x (head1 (Jvm.Cond.code x code maxLocals ret :: tables_1) room_1) (fun b U => b = #[.int i0, .int i1, .int i2, .int i3] ∧ s.Warmed39 U.vm ∧ U.heap = s.heap) (fun _ _ _ _ _ => True) (fun _ U o U' => ∃ u L, o = .returned u ∧ (u = some (.int 1) ∧ Fr s.heap.size L) ∧ FrameEnd U o U' L 56 768) :=
    law_met (lkC s _ hw) (lkL s _ hw) (sc := none) (a := 0) (me := lm0) rfl l (bytes := code) (chk_ok dk_l0) (as := [.int i0, .int i1, .int i2, .int i3]) rfl (Nat.le_of_ble_eq_true rfl) hr trivial
  obtain ⟨n, o, h1, h2, h3, _, L, rfl, ⟨rfl, N⟩, hq⟩ := M p e ha hc hk s m _ below hf ((Spec.applies_iff_loose hf).mp happ).1 ⟨rfl, State.Warmed39.refl s, rfl⟩ trivial
  refine ⟨n, _, h1, h2, h3, hpost _ _ _ _ _ _ ⟨Cond.after_iff.mpr rfl, Cond.after_iff.mpr (eq_i res_at (Term.int_eval (1)) rfl), trivial⟩ ⟨hq.1, hq.2.1, (hq.2.2.sift fun y hy => Or.inr (N y hy)).mono (by decide) (by decide)⟩⟩
theorem main_1_1 : Claimed_1_1 := comes_1 fun _ _ _ _ _ _ h hF => ⟨h.1, hF⟩
theorem main_1_2 : Claimed_1_2 := comes_1 fun _ _ _ _ _ _ h hF => ⟨h.2.1, hF⟩
end Jvm.Pilot.@@N@@
namespace Jvm.Pilot.@@N@@
open Jvm Jvm.ClassFile Sem Op Lib Jvm.Free Jvm.Stand Jvm.Pilot.@@N@@.Jvm.D
/-! MADE BY PROGRAM (witnessworld.py) out of the Statement's table words and the real class files: 13 classes; the members and pool entries that the words name. The judged class is class 1, her method 1. -/
namespace start1
open Jvm.ClassFile
def u (s : String) : CpInfo := .utf8 (stringToUtf16 s)
/-- a pool by its gaps: so many unusable entries, then the entry; so many at the end -/
def gap : Nat → List CpInfo → List CpInfo
  | 0, r => r
  | n + 1, r => .unusable :: gap n r
def poolList (es : List (Nat × CpInfo)) (last : Nat) : List CpInfo := es.foldr (fun e r => gap e.1 (e.2 :: r)) (gap last [])
def pool (es : List (Nat × CpInfo)) (last : Nat) : Array CpInfo := ⟨poolList es last⟩
def fileOf (pool : Array CpInfo) (this : Nat) (attrs : Array Attribute := #[]) (ms : Array MethodInfo := #[]) (fl : Nat := 33) (sup : Nat := 0) (ifs : Array Nat := #[]) (fds : Array FieldInfo := #[]) : ClassFile where
  minorVersion := 0
  majorVersion := 65
  constantPool := pool
  accessFlags := fl
  thisClass := this
  superClass := sup
  interfaces := ifs
  fields := fds
  methods := ms
  attributes := attrs
def plain (name : String) (sup : Option ClassId) : Class where
  name := name
  kind := .ordinary
  loader := none
  accessFlags := 33
  super := sup
  interfaces := #[]
  cf := none
  fields := #[]
  methods := #[]
  instanceTypes := #[]
  staticTypes := #[]
  resolved := #[]
  callSites := []
  init := .initialized
  statics := none
  mirror := none

def pool0 : Array CpInfo := pool [(5, u "<init>"), (0, u "()V"), (1, .class_ 10), (1, u "java/lang/Object")] 113

def k0c0 : Code := { maxStack := 0, maxLocals := 1, code := object_method_1_code, exceptionTable := #[], attributes := #[] }
def k0m0 : Method := { name := "<init>", desc := "()V", sig := { parameters := [], returnType := none }, accessFlags := 1, code := some k0c0 }
/-- java/lang/Object -/
def k0 : Class := { plain "java/lang/Object" none with
  accessFlags := 33
  interfaces := #[]
  cf := some (fileOf pool0 8 #[] #[{ accessFlags := 1, nameIndex := 5, descriptorIndex := 6, attributes := #[] }] 33 0 #[] #[])
  fields := #[]
  methods := #[k0m0]
  instanceTypes := #[]
  staticTypes := #[]
  resolved := Array.replicate 124 none
  statics := none }

def pool1 : Array CpInfo := pool [(2, .class_ 4), (1, u "java/lang/Object"), (0, u "<init>"), (0, u "()V"), (0, .class_ 8), (0, u "StrideScheduler"), (0, .methodref 7 10), (0, .nameAndType 5 11), (0, u "(I)V"), (0, .methodref 7 13), (0, .nameAndType 14 15), (0, u "createCurrency"), (0, u "(II)I"), (0, .methodref 7 17), (0, .nameAndType 18 15), (0, u "addClient"), (0, .integer 1048576), (0, .methodref 7 21), (0, .nameAndType 22 23), (0, u "dispatch"), (0, u "(I)I"), (0, .methodref 7 25), (0, .nameAndType 26 15), (0, u "getClient"), (0, .methodref 7 28), (0, .nameAndType 29 23), (0, u "getCount"), (0, .methodref 7 31), (0, .nameAndType 32 15), (0, u "getCurrency"), (0, .class_ 34), (0, u "StrideSchedulerL3"), (2, u "law"), (0, u "(IIII)Z")] 3

def k1m0 : Method := { name := "<init>", desc := "()V", sig := { parameters := [], returnType := none }, accessFlags := 1, code := none }
def k1c1 : Code := { maxStack := 4, maxLocals := 33, code := code, exceptionTable := #[], attributes := #[] }
def k1m1 : Method := { name := "law", desc := "(IIII)Z", sig := { parameters := [.int, .int, .int, .int], returnType := some .boolean }, accessFlags := 9, code := some k1c1 }
/-- StrideSchedulerL3 -/
def k1 : Class := { plain "StrideSchedulerL3" (some 0) with
  accessFlags := 49
  interfaces := #[]
  cf := some (fileOf pool1 33 #[] #[{ accessFlags := 1, nameIndex := 5, descriptorIndex := 6, attributes := #[] }, { accessFlags := 9, nameIndex := 37, descriptorIndex := 38, attributes := #[] }] 49 2 #[] #[])
  fields := #[]
  methods := #[k1m0, k1m1]
  instanceTypes := #[]
  staticTypes := #[]
  resolved := Array.replicate 42 none
  statics := none }

def pool2 : Array CpInfo := pool [(1, .methodref 2 3), (0, .class_ 4), (0, .nameAndType 5 6), (0, u "java/lang/Object"), (0, u "<init>"), (0, u "()V"), (0, .fieldref 8 9), (0, .class_ 10), (0, .nameAndType 11 12), (0, u "StrideScheduler"), (0, u "curParent"), (0, u "[I"), (0, .fieldref 8 14), (0, .nameAndType 15 12), (0, u "curBacking"), (0, .fieldref 8 17), (0, .nameAndType 18 19), (0, u "issued"), (0, u "[J"), (0, .fieldref 8 21), (0, .nameAndType 22 19), (0, u "worth"), (0, .fieldref 8 24), (0, .nameAndType 25 12), (0, u "state"), (0, .fieldref 8 27), (0, .nameAndType 28 12), (0, u "cur"), (0, .fieldref 8 30), (0, .nameAndType 31 12), (0, u "amt"), (0, .fieldref 8 33), (0, .nameAndType 34 12), (0, u "link"), (0, .fieldref 8 36), (0, .nameAndType 37 12), (0, u "quanta"), (0, .fieldref 8 39), (0, .nameAndType 40 12), (0, u "total"), (0, .fieldref 8 42), (0, .nameAndType 43 19), (0, u "comp"), (0, .fieldref 8 45), (0, .nameAndType 46 19), (0, u "pass"), (0, .fieldref 8 48), (0, .nameAndType 49 19), (0, u "stride"), (0, .fieldref 8 51), (0, .nameAndType 52 19), (0, u "remain"), (0, .fieldref 8 54), (0, .nameAndType 55 19), (0, u "remStride"), (0, .fieldref 8 57), (0, .nameAndType 58 12), (0, u "holder"), (0, .fieldref 8 60), (0, .nameAndType 61 62), (0, u "active"), (0, u "[Z"), (0, .fieldref 8 64), (0, .nameAndType 65 19), (0, u "value"), (0, .fieldref 8 67), (0, .nameAndType 68 19), (0, u "base"), (0, .fieldref 8 70), (0, .nameAndType 71 19), (0, u "tick"), (0, .fieldref 8 73), (0, .nameAndType 74 62), (0, u "inP"), (0, .fieldref 8 76), (0, .nameAndType 77 78), (0, u "q"), (0, u "I"), (0, .fieldref 8 80), (0, .nameAndType 81 78), (0, u "count"), (0, .fieldref 8 83), (0, .nameAndType 84 78), (0, u "created"), (0, .fieldref 8 86), (0, .nameAndType 87 78), (0, u "epochs"), (0, .fieldref 8 89), (0, .nameAndType 90 78), (0, u "dispatches"), (0, .methodref 8 92), (0, .nameAndType 93 94), (0, u "validAmount"), (0, u "(I)Z"), (0, .methodref 8 96), (0, .nameAndType 97 6), (0, u "snapshot"), (0, .methodref 8 99), (0, .nameAndType 100 6), (0, u "epochStart"), (6, .methodref 8 108), (0, .nameAndType 109 110), (0, u "pickLeast"), (0, u "()I"), (0, .methodref 8 112), (0, .nameAndType 113 6), (0, u "refresh"), (0, .methodref 8 115), (0, .nameAndType 116 117), (0, u "ticketsOf"), (0, u "(I)I"), (0, .methodref 8 119), (0, .nameAndType 120 6), (0, u "computeHolders"), (0, .methodref 8 122), (0, .nameAndType 123 6), (0, u "computeIssued"), (0, .methodref 8 125), (0, .nameAndType 126 6), (0, u "computeWorth"), (0, .methodref 8 128), (0, .nameAndType 129 6), (0, u "computeValues"), (0, .methodref 8 131), (0, .nameAndType 132 6), (0, u "computeTickets"), (0, .methodref 8 134), (0, .nameAndType 135 117), (0, u "findHolder"), (0, .methodref 8 137), (0, .nameAndType 138 139), (0, u "leastPassOfP"), (0, u "()J"), (0, .methodref 8 141), (0, .nameAndType 142 143), (0, u "rescale"), (0, u "(IJ)V"), (0, .long 1048576), (1, u "MAX_CLIENTS"), (2, u "MAX_CURRENCIES"), (1, u "MAX_AMOUNT"), (1, u "STRIDE1"), (1, u "MIN_QUANTUM"), (1, u "MAX_QUANTUM"), (0, u "OK"), (1, u "NONE"), (1, u "ERR_ARG"), (1, u "ERR_ID"), (1, u "ERR_STATE"), (1, u "ERR_FULL"), (1, u "ERR_BUSY"), (1, u "STATE_NONE"), (0, u "RUNNABLE"), (0, u "BLOCKED"), (1, u "REMOVED"), (1, u "F_STATE"), (0, u "F_CURRENCY"), (0, u "F_AMOUNT"), (0, u "F_LINK"), (0, u "F_TICKETS"), (1, u "F_STRIDE"), (1, u "F_PASS"), (1, u "F_QUANTA"), (1, u "F_TOTAL"), (0, u "F_COMP"), (1, u "F_REMAIN"), (1, u "F_REMSTRIDE"), (1, u "C_PARENT"), (0, u "C_BACKING"), (0, u "C_ISSUED"), (0, u "C_WORTH"), (0, u "K_EPOCH"), (0, u "K_CURRENCIES"), (0, u "K_CLIENTS"), (0, u "K_QUANTUM"), (0, u "K_DISPATCHES"), (0, u "(I)V"), (3, u "createCurrency"), (0, u "(II)I"), (0, u "addClient"), (5, u "dispatch"), (0, u "getClient"), (0, u "getCurrency"), (0, u "getCount")] 4

def k2c0 : Code := { maxStack := 3, maxLocals := 3, code := prog_1_method_1_code, exceptionTable := #[], attributes := #[] }
def k2m0 : Method := { name := "<init>", desc := "(I)V", sig := { parameters := [.int], returnType := none }, accessFlags := 1, code := some k2c0 }
def k2c1 : Code := { maxStack := 3, maxLocals := 4, code := prog_1_method_2_code, exceptionTable := #[], attributes := #[] }
def k2m1 : Method := { name := "createCurrency", desc := "(II)I", sig := { parameters := [.int, .int], returnType := some .int }, accessFlags := 1, code := some k2c1 }
def k2c2 : Code := { maxStack := 4, maxLocals := 4, code := prog_1_method_3_code, exceptionTable := #[], attributes := #[] }
def k2m2 : Method := { name := "addClient", desc := "(II)I", sig := { parameters := [.int, .int], returnType := some .int }, accessFlags := 1, code := some k2c2 }
def k2c3 : Code := { maxStack := 6, maxLocals := 5, code := prog_1_method_9_code, exceptionTable := #[], attributes := #[] }
def k2m3 : Method := { name := "dispatch", desc := "(I)I", sig := { parameters := [.int], returnType := some .int }, accessFlags := 1, code := some k2c3 }
def k2c4 : Code := { maxStack := 2, maxLocals := 3, code := prog_1_method_10_code, exceptionTable := #[], attributes := #[] }
def k2m4 : Method := { name := "getClient", desc := "(II)I", sig := { parameters := [.int, .int], returnType := some .int }, accessFlags := 1, code := some k2c4 }
def k2c5 : Code := { maxStack := 2, maxLocals := 3, code := prog_1_method_11_code, exceptionTable := #[], attributes := #[] }
def k2m5 : Method := { name := "getCurrency", desc := "(II)I", sig := { parameters := [.int, .int], returnType := some .int }, accessFlags := 1, code := some k2c5 }
def k2c6 : Code := { maxStack := 1, maxLocals := 2, code := prog_1_method_12_code, exceptionTable := #[], attributes := #[] }
def k2m6 : Method := { name := "getCount", desc := "(I)I", sig := { parameters := [.int], returnType := some .int }, accessFlags := 1, code := some k2c6 }
def k2c7 : Code := { maxStack := 2, maxLocals := 2, code := prog_1_method_13_code, exceptionTable := #[], attributes := #[] }
def k2m7 : Method := { name := "validAmount", desc := "(I)Z", sig := { parameters := [.int], returnType := some .boolean }, accessFlags := 2, code := some k2c7 }
def k2c8 : Code := { maxStack := 4, maxLocals := 3, code := prog_1_method_16_code, exceptionTable := #[], attributes := #[] }
def k2m8 : Method := { name := "pickLeast", desc := "()I", sig := { parameters := [], returnType := some .int }, accessFlags := 2, code := some k2c8 }
def k2c9 : Code := { maxStack := 2, maxLocals := 2, code := prog_1_method_17_code, exceptionTable := #[], attributes := #[] }
def k2m9 : Method := { name := "ticketsOf", desc := "(I)I", sig := { parameters := [.int], returnType := some .int }, accessFlags := 2, code := some k2c9 }
def k2c10 : Code := { maxStack := 4, maxLocals := 2, code := prog_1_method_18_code, exceptionTable := #[], attributes := #[] }
def k2m10 : Method := { name := "snapshot", desc := "()V", sig := { parameters := [], returnType := none }, accessFlags := 2, code := some k2c10 }
def k2c11 : Code := { maxStack := 1, maxLocals := 1, code := prog_1_method_19_code, exceptionTable := #[], attributes := #[] }
def k2m11 : Method := { name := "refresh", desc := "()V", sig := { parameters := [], returnType := none }, accessFlags := 2, code := some k2c11 }
def k2c12 : Code := { maxStack := 2, maxLocals := 5, code := prog_1_method_20_code, exceptionTable := #[], attributes := #[] }
def k2m12 : Method := { name := "findHolder", desc := "(I)I", sig := { parameters := [.int], returnType := some .int }, accessFlags := 2, code := some k2c12 }
def k2c13 : Code := { maxStack := 4, maxLocals := 3, code := prog_1_method_21_code, exceptionTable := #[], attributes := #[] }
def k2m13 : Method := { name := "computeHolders", desc := "()V", sig := { parameters := [], returnType := none }, accessFlags := 2, code := some k2c13 }
def k2c14 : Code := { maxStack := 4, maxLocals := 5, code := prog_1_method_22_code, exceptionTable := #[], attributes := #[] }
def k2m14 : Method := { name := "computeIssued", desc := "()V", sig := { parameters := [], returnType := none }, accessFlags := 2, code := some k2c14 }
def k2c15 : Code := { maxStack := 6, maxLocals := 3, code := prog_1_method_23_code, exceptionTable := #[], attributes := #[] }
def k2m15 : Method := { name := "computeWorth", desc := "()V", sig := { parameters := [], returnType := none }, accessFlags := 2, code := some k2c15 }
def k2c16 : Code := { maxStack := 6, maxLocals := 3, code := prog_1_method_24_code, exceptionTable := #[], attributes := #[] }
def k2m16 : Method := { name := "computeValues", desc := "()V", sig := { parameters := [], returnType := none }, accessFlags := 2, code := some k2c16 }
def k2c17 : Code := { maxStack := 6, maxLocals := 4, code := prog_1_method_25_code, exceptionTable := #[], attributes := #[] }
def k2m17 : Method := { name := "computeTickets", desc := "()V", sig := { parameters := [], returnType := none }, accessFlags := 2, code := some k2c17 }
def k2c18 : Code := { maxStack := 4, maxLocals := 5, code := prog_1_method_26_code, exceptionTable := #[], attributes := #[] }
def k2m18 : Method := { name := "leastPassOfP", desc := "()J", sig := { parameters := [], returnType := some .long }, accessFlags := 2, code := some k2c18 }
def k2c19 : Code := { maxStack := 4, maxLocals := 4, code := prog_1_method_27_code, exceptionTable := #[], attributes := #[] }
def k2m19 : Method := { name := "epochStart", desc := "()V", sig := { parameters := [], returnType := none }, accessFlags := 2, code := some k2c19 }
def k2c20 : Code := { maxStack := 6, maxLocals := 7, code := prog_1_method_28_code, exceptionTable := #[], attributes := #[] }
def k2m20 : Method := { name := "rescale", desc := "(IJ)V", sig := { parameters := [.int, .long], returnType := none }, accessFlags := 2, code := some k2c20 }
/-- StrideScheduler -/
def k2 : Class := { plain "StrideScheduler" (some 0) with
  accessFlags := 49
  interfaces := #[]
  cf := some (fileOf pool2 8 #[] #[{ accessFlags := 1, nameIndex := 5, descriptorIndex := 206, attributes := #[] }, { accessFlags := 1, nameIndex := 210, descriptorIndex := 211, attributes := #[] }, { accessFlags := 1, nameIndex := 212, descriptorIndex := 211, attributes := #[] }, { accessFlags := 1, nameIndex := 218, descriptorIndex := 117, attributes := #[] }, { accessFlags := 1, nameIndex := 219, descriptorIndex := 211, attributes := #[] }, { accessFlags := 1, nameIndex := 220, descriptorIndex := 211, attributes := #[] }, { accessFlags := 1, nameIndex := 221, descriptorIndex := 117, attributes := #[] }, { accessFlags := 2, nameIndex := 93, descriptorIndex := 94, attributes := #[] }, { accessFlags := 2, nameIndex := 109, descriptorIndex := 110, attributes := #[] }, { accessFlags := 2, nameIndex := 116, descriptorIndex := 117, attributes := #[] }, { accessFlags := 2, nameIndex := 97, descriptorIndex := 6, attributes := #[] }, { accessFlags := 2, nameIndex := 113, descriptorIndex := 6, attributes := #[] }, { accessFlags := 2, nameIndex := 135, descriptorIndex := 117, attributes := #[] }, { accessFlags := 2, nameIndex := 120, descriptorIndex := 6, attributes := #[] }, { accessFlags := 2, nameIndex := 123, descriptorIndex := 6, attributes := #[] }, { accessFlags := 2, nameIndex := 126, descriptorIndex := 6, attributes := #[] }, { accessFlags := 2, nameIndex := 129, descriptorIndex := 6, attributes := #[] }, { accessFlags := 2, nameIndex := 132, descriptorIndex := 6, attributes := #[] }, { accessFlags := 2, nameIndex := 138, descriptorIndex := 139, attributes := #[] }, { accessFlags := 2, nameIndex := 100, descriptorIndex := 6, attributes := #[] }, { accessFlags := 2, nameIndex := 142, descriptorIndex := 143, attributes := #[] }] 49 2 #[] #[{ accessFlags := 25, nameIndex := 146, descriptorIndex := 78, attributes := #[] }, { accessFlags := 25, nameIndex := 149, descriptorIndex := 78, attributes := #[] }, { accessFlags := 25, nameIndex := 151, descriptorIndex := 78, attributes := #[] }, { accessFlags := 25, nameIndex := 153, descriptorIndex := 78, attributes := #[] }, { accessFlags := 25, nameIndex := 155, descriptorIndex := 78, attributes := #[] }, { accessFlags := 25, nameIndex := 157, descriptorIndex := 78, attributes := #[] }, { accessFlags := 25, nameIndex := 158, descriptorIndex := 78, attributes := #[] }, { accessFlags := 25, nameIndex := 160, descriptorIndex := 78, attributes := #[] }, { accessFlags := 25, nameIndex := 162, descriptorIndex := 78, attributes := #[] }, { accessFlags := 25, nameIndex := 164, descriptorIndex := 78, attributes := #[] }, { accessFlags := 25, nameIndex := 166, descriptorIndex := 78, attributes := #[] }, { accessFlags := 25, nameIndex := 168, descriptorIndex := 78, attributes := #[] }, { accessFlags := 25, nameIndex := 170, descriptorIndex := 78, attributes := #[] }, { accessFlags := 25, nameIndex := 172, descriptorIndex := 78, attributes := #[] }, { accessFlags := 25, nameIndex := 173, descriptorIndex := 78, attributes := #[] }, { accessFlags := 25, nameIndex := 174, descriptorIndex := 78, attributes := #[] }, { accessFlags := 25, nameIndex := 176, descriptorIndex := 78, attributes := #[] }, { accessFlags := 25, nameIndex := 178, descriptorIndex := 78, attributes := #[] }, { accessFlags := 25, nameIndex := 179, descriptorIndex := 78, attributes := #[] }, { accessFlags := 25, nameIndex := 180, descriptorIndex := 78, attributes := #[] }, { accessFlags := 25, nameIndex := 181, descriptorIndex := 78, attributes := #[] }, { accessFlags := 25, nameIndex := 182, descriptorIndex := 78, attributes := #[] }, { accessFlags := 25, nameIndex := 184, descriptorIndex := 78, attributes := #[] }, { accessFlags := 25, nameIndex := 186, descriptorIndex := 78, attributes := #[] }, { accessFlags := 25, nameIndex := 188, descriptorIndex := 78, attributes := #[] }, { accessFlags := 25, nameIndex := 190, descriptorIndex := 78, attributes := #[] }, { accessFlags := 25, nameIndex := 191, descriptorIndex := 78, attributes := #[] }, { accessFlags := 25, nameIndex := 193, descriptorIndex := 78, attributes := #[] }, { accessFlags := 25, nameIndex := 195, descriptorIndex := 78, attributes := #[] }, { accessFlags := 25, nameIndex := 197, descriptorIndex := 78, attributes := #[] }, { accessFlags := 25, nameIndex := 198, descriptorIndex := 78, attributes := #[] }, { accessFlags := 25, nameIndex := 199, descriptorIndex := 78, attributes := #[] }, { accessFlags := 25, nameIndex := 200, descriptorIndex := 78, attributes := #[] }, { accessFlags := 25, nameIndex := 201, descriptorIndex := 78, attributes := #[] }, { accessFlags := 25, nameIndex := 202, descriptorIndex := 78, attributes := #[] }, { accessFlags := 25, nameIndex := 203, descriptorIndex := 78, attributes := #[] }, { accessFlags := 25, nameIndex := 204, descriptorIndex := 78, attributes := #[] }, { accessFlags := 25, nameIndex := 205, descriptorIndex := 78, attributes := #[] }, { accessFlags := 2, nameIndex := 77, descriptorIndex := 78, attributes := #[] }, { accessFlags := 2, nameIndex := 81, descriptorIndex := 78, attributes := #[] }, { accessFlags := 2, nameIndex := 84, descriptorIndex := 78, attributes := #[] }, { accessFlags := 2, nameIndex := 87, descriptorIndex := 78, attributes := #[] }, { accessFlags := 2, nameIndex := 90, descriptorIndex := 78, attributes := #[] }, { accessFlags := 2, nameIndex := 11, descriptorIndex := 12, attributes := #[] }, { accessFlags := 2, nameIndex := 15, descriptorIndex := 12, attributes := #[] }, { accessFlags := 2, nameIndex := 18, descriptorIndex := 19, attributes := #[] }, { accessFlags := 2, nameIndex := 22, descriptorIndex := 19, attributes := #[] }, { accessFlags := 2, nameIndex := 25, descriptorIndex := 12, attributes := #[] }, { accessFlags := 2, nameIndex := 28, descriptorIndex := 12, attributes := #[] }, { accessFlags := 2, nameIndex := 31, descriptorIndex := 12, attributes := #[] }, { accessFlags := 2, nameIndex := 34, descriptorIndex := 12, attributes := #[] }, { accessFlags := 2, nameIndex := 37, descriptorIndex := 12, attributes := #[] }, { accessFlags := 2, nameIndex := 40, descriptorIndex := 12, attributes := #[] }, { accessFlags := 2, nameIndex := 43, descriptorIndex := 19, attributes := #[] }, { accessFlags := 2, nameIndex := 46, descriptorIndex := 19, attributes := #[] }, { accessFlags := 2, nameIndex := 49, descriptorIndex := 19, attributes := #[] }, { accessFlags := 2, nameIndex := 52, descriptorIndex := 19, attributes := #[] }, { accessFlags := 2, nameIndex := 55, descriptorIndex := 19, attributes := #[] }, { accessFlags := 2, nameIndex := 58, descriptorIndex := 12, attributes := #[] }, { accessFlags := 2, nameIndex := 61, descriptorIndex := 62, attributes := #[] }, { accessFlags := 2, nameIndex := 65, descriptorIndex := 19, attributes := #[] }, { accessFlags := 2, nameIndex := 68, descriptorIndex := 19, attributes := #[] }, { accessFlags := 2, nameIndex := 71, descriptorIndex := 19, attributes := #[] }, { accessFlags := 2, nameIndex := 74, descriptorIndex := 62, attributes := #[] }])
  fields := #[{ name := "MAX_CLIENTS", type := .int, accessFlags := 25, slot := 0, constantValue := 0 }, { name := "MAX_CURRENCIES", type := .int, accessFlags := 25, slot := 1, constantValue := 0 }, { name := "MAX_AMOUNT", type := .int, accessFlags := 25, slot := 2, constantValue := 0 }, { name := "STRIDE1", type := .int, accessFlags := 25, slot := 3, constantValue := 0 }, { name := "MIN_QUANTUM", type := .int, accessFlags := 25, slot := 4, constantValue := 0 }, { name := "MAX_QUANTUM", type := .int, accessFlags := 25, slot := 5, constantValue := 0 }, { name := "OK", type := .int, accessFlags := 25, slot := 6, constantValue := 0 }, { name := "NONE", type := .int, accessFlags := 25, slot := 7, constantValue := 0 }, { name := "ERR_ARG", type := .int, accessFlags := 25, slot := 8, constantValue := 0 }, { name := "ERR_ID", type := .int, accessFlags := 25, slot := 9, constantValue := 0 }, { name := "ERR_STATE", type := .int, accessFlags := 25, slot := 10, constantValue := 0 }, { name := "ERR_FULL", type := .int, accessFlags := 25, slot := 11, constantValue := 0 }, { name := "ERR_BUSY", type := .int, accessFlags := 25, slot := 12, constantValue := 0 }, { name := "STATE_NONE", type := .int, accessFlags := 25, slot := 13, constantValue := 0 }, { name := "RUNNABLE", type := .int, accessFlags := 25, slot := 14, constantValue := 0 }, { name := "BLOCKED", type := .int, accessFlags := 25, slot := 15, constantValue := 0 }, { name := "REMOVED", type := .int, accessFlags := 25, slot := 16, constantValue := 0 }, { name := "F_STATE", type := .int, accessFlags := 25, slot := 17, constantValue := 0 }, { name := "F_CURRENCY", type := .int, accessFlags := 25, slot := 18, constantValue := 0 }, { name := "F_AMOUNT", type := .int, accessFlags := 25, slot := 19, constantValue := 0 }, { name := "F_LINK", type := .int, accessFlags := 25, slot := 20, constantValue := 0 }, { name := "F_TICKETS", type := .int, accessFlags := 25, slot := 21, constantValue := 0 }, { name := "F_STRIDE", type := .int, accessFlags := 25, slot := 22, constantValue := 0 }, { name := "F_PASS", type := .int, accessFlags := 25, slot := 23, constantValue := 0 }, { name := "F_QUANTA", type := .int, accessFlags := 25, slot := 24, constantValue := 0 }, { name := "F_TOTAL", type := .int, accessFlags := 25, slot := 25, constantValue := 0 }, { name := "F_COMP", type := .int, accessFlags := 25, slot := 26, constantValue := 0 }, { name := "F_REMAIN", type := .int, accessFlags := 25, slot := 27, constantValue := 0 }, { name := "F_REMSTRIDE", type := .int, accessFlags := 25, slot := 28, constantValue := 0 }, { name := "C_PARENT", type := .int, accessFlags := 25, slot := 29, constantValue := 0 }, { name := "C_BACKING", type := .int, accessFlags := 25, slot := 30, constantValue := 0 }, { name := "C_ISSUED", type := .int, accessFlags := 25, slot := 31, constantValue := 0 }, { name := "C_WORTH", type := .int, accessFlags := 25, slot := 32, constantValue := 0 }, { name := "K_EPOCH", type := .int, accessFlags := 25, slot := 33, constantValue := 0 }, { name := "K_CURRENCIES", type := .int, accessFlags := 25, slot := 34, constantValue := 0 }, { name := "K_CLIENTS", type := .int, accessFlags := 25, slot := 35, constantValue := 0 }, { name := "K_QUANTUM", type := .int, accessFlags := 25, slot := 36, constantValue := 0 }, { name := "K_DISPATCHES", type := .int, accessFlags := 25, slot := 37, constantValue := 0 }, { name := "q", type := .int, accessFlags := 2, slot := 0, constantValue := 0 }, { name := "count", type := .int, accessFlags := 2, slot := 1, constantValue := 0 }, { name := "created", type := .int, accessFlags := 2, slot := 2, constantValue := 0 }, { name := "epochs", type := .int, accessFlags := 2, slot := 3, constantValue := 0 }, { name := "dispatches", type := .int, accessFlags := 2, slot := 4, constantValue := 0 }, { name := "curParent", type := (.array .int), accessFlags := 2, slot := 5, constantValue := 0 }, { name := "curBacking", type := (.array .int), accessFlags := 2, slot := 6, constantValue := 0 }, { name := "issued", type := (.array .long), accessFlags := 2, slot := 7, constantValue := 0 }, { name := "worth", type := (.array .long), accessFlags := 2, slot := 8, constantValue := 0 }, { name := "state", type := (.array .int), accessFlags := 2, slot := 9, constantValue := 0 }, { name := "cur", type := (.array .int), accessFlags := 2, slot := 10, constantValue := 0 }, { name := "amt", type := (.array .int), accessFlags := 2, slot := 11, constantValue := 0 }, { name := "link", type := (.array .int), accessFlags := 2, slot := 12, constantValue := 0 }, { name := "quanta", type := (.array .int), accessFlags := 2, slot := 13, constantValue := 0 }, { name := "total", type := (.array .int), accessFlags := 2, slot := 14, constantValue := 0 }, { name := "comp", type := (.array .long), accessFlags := 2, slot := 15, constantValue := 0 }, { name := "pass", type := (.array .long), accessFlags := 2, slot := 16, constantValue := 0 }, { name := "stride", type := (.array .long), accessFlags := 2, slot := 17, constantValue := 0 }, { name := "remain", type := (.array .long), accessFlags := 2, slot := 18, constantValue := 0 }, { name := "remStride", type := (.array .long), accessFlags := 2, slot := 19, constantValue := 0 }, { name := "holder", type := (.array .int), accessFlags := 2, slot := 20, constantValue := 0 }, { name := "active", type := (.array .boolean), accessFlags := 2, slot := 21, constantValue := 0 }, { name := "value", type := (.array .long), accessFlags := 2, slot := 22, constantValue := 0 }, { name := "base", type := (.array .long), accessFlags := 2, slot := 23, constantValue := 0 }, { name := "tick", type := (.array .long), accessFlags := 2, slot := 24, constantValue := 0 }, { name := "inP", type := (.array .boolean), accessFlags := 2, slot := 25, constantValue := 0 }]
  methods := #[k2m0, k2m1, k2m2, k2m3, k2m4, k2m5, k2m6, k2m7, k2m8, k2m9, k2m10, k2m11, k2m12, k2m13, k2m14, k2m15, k2m16, k2m17, k2m18, k2m19, k2m20]
  instanceTypes := #[.int, .int, .int, .int, .int, (.array .int), (.array .int), (.array .long), (.array .long), (.array .int), (.array .int), (.array .int), (.array .int), (.array .int), (.array .int), (.array .long), (.array .long), (.array .long), (.array .long), (.array .long), (.array .int), (.array .boolean), (.array .long), (.array .long), (.array .long), (.array .boolean)]
  staticTypes := #[.int, .int, .int, .int, .int, .int, .int, .int, .int, .int, .int, .int, .int, .int, .int, .int, .int, .int, .int, .int, .int, .int, .int, .int, .int, .int, .int, .int, .int, .int, .int, .int, .int, .int, .int, .int, .int, .int]
  resolved := Array.replicate 226 none
  statics := none }

def pool3 : Array CpInfo := pool [(1, u "java/lang/Cloneable"), (0, .class_ 1), (0, u "java/lang/Object"), (0, .class_ 3)] 3

/-- java/lang/Cloneable -/
def k3 : Class := { plain "java/lang/Cloneable" (some 0) with
  accessFlags := 1537
  interfaces := #[]
  cf := some (fileOf pool3 2 #[] #[] 1537 4 #[] #[])
  fields := #[]
  methods := #[]
  instanceTypes := #[]
  staticTypes := #[]
  resolved := Array.replicate 8 none
  statics := none }

def pool4 : Array CpInfo := pool [(1, u "java/io/Serializable"), (0, .class_ 1), (0, u "java/lang/Object"), (0, .class_ 3)] 3

/-- java/io/Serializable -/
def k4 : Class := { plain "java/io/Serializable" (some 0) with
  accessFlags := 1537
  interfaces := #[]
  cf := some (fileOf pool4 2 #[] #[] 1537 4 #[] #[])
  fields := #[]
  methods := #[]
  instanceTypes := #[]
  staticTypes := #[]
  resolved := Array.replicate 8 none
  statics := none }

/-- the primitive boolean -/
def k5 : Class := { plain "boolean" none with kind := .primitive 'Z', accessFlags := 0x411 }
/-- [Z -/
def k6 : Class := { plain "[Z" (some 0) with kind := .array 5 .boolean, interfaces := #[3, 4], accessFlags := 1041 }

/-- the primitive byte -/
def k7 : Class := { plain "byte" none with kind := .primitive 'B', accessFlags := 0x411 }
/-- [B -/
def k8 : Class := { plain "[B" (some 0) with kind := .array 7 .byte, interfaces := #[3, 4], accessFlags := 1041 }

/-- the primitive int -/
def k9 : Class := { plain "int" none with kind := .primitive 'I', accessFlags := 0x411 }
/-- [I -/
def k10 : Class := { plain "[I" (some 0) with kind := .array 9 .int, interfaces := #[3, 4], accessFlags := 1041 }

/-- the primitive long -/
def k11 : Class := { plain "long" none with kind := .primitive 'J', accessFlags := 0x411 }
/-- [J -/
def k12 : Class := { plain "[J" (some 0) with kind := .array 11 .long, interfaces := #[3, 4], accessFlags := 1041 }

def heap : Heap := #[]
def classes : Array Class := #[k0, k1, k2, k3, k4, k5, k6, k7, k8, k9, k10, k11, k12]
def interned : List (Array UInt16 × Addr) := []
def slotsUsed : Nat := 0
def theMethod : MethodId := ⟨1, 1⟩
def args0 : Array Value := #[.int 5, .int 5, .int 5, .int 5]
def aboutOver (below : List Frame) : State where
  vm := { classes := classes, interned := interned.toArray }
  heap := heap
  slotsUsed := slotsUsed
  threads := #[{ frames := .invoking theMethod args0 :: below }]
def below0 : List Frame := [.native { method := ⟨0, 0⟩, args := #[] }]
def about1 : State := aboutOver below0
def p0 : Program := .bare "" "" ""
def e0 : Env := launch0.env 0 0 0
theorem w_frames : about1.frames = Frame.invoking theMethod args0 :: below0 := rfl
set_option maxRecDepth 65536 in
theorem w_args : argsFit about1.vm theMethod args0 = true := by decide +kernel
set_option maxRecDepth 65536 in
theorem w_heap : heapFits about1 = true := by decide +kernel
set_option maxRecDepth 65536 in
theorem w_runnable : about1.curStatus? = some .runnable := by decide +kernel
set_option maxRecDepth 65536 in
theorem w_alone : about1.alone = true := by decide +kernel
set_option maxRecDepth 65536 in
theorem w_named : about1.methodNamed? x = some theMethod := by decide +kernel
set_option maxRecDepth 65536 in
theorem w_hears : about1.hears theMethod below0 = true := by decide +kernel
set_option maxRecDepth 65536 in
theorem w_ripe : about1.ripe theMethod args0 below0 = true := by decide +kernel
theorem w_running : about1.status = .running := rfl
set_option maxRecDepth 65536 in
theorem w_room : about1.hasRoom e0.platform room_1 = true :=
  launch0.hasRoom_least _ room_1 (by decide +kernel) (by decide +kernel) (by decide +kernel) (by decide +kernel) (by decide +kernel) (by decide +kernel)
theorem allAtoms_all (ts : List Jvm.Cond) (a : Array Jvm.Value) (st : Jvm.State) : (allAtoms ts).before a st = ts.all (fun c => c.before a st) := by
  induction ts with
  | nil => rfl
  | cons c t ih =>
    show (Jvm.Cond.and c (allAtoms t)).before a st = _
    rw [Jvm.Cond.before_and, ih, List.all_cons]
def words1 : List Jvm.Cond := Jvm.Cond.code x code maxLocals ret :: tables_1
/-- a 'code' word, met by the world's own term for the bytes: nothing is compared byte by byte -/
theorem code_word {y : MethodName} {bytes : ByteArray} {mx : Nat} {rt : Option FieldType} {a : Array Value} {s : State} {m : MethodId} {meth : Method} {c : Code} (h1 : s.methodNamed? y = some m) (h2 : s.vm.method? m = some meth) (h3 : meth.code = some c) (h4 : c.code = bytes)
    (h5 : (c.maxLocals == mx && c.exceptionTable.isEmpty && decide (c.maxStack ≤ mostOperands) && decide (meth.sig.returnType = rt) && !meth.locks && decide (parseMethodDescriptor y.desc = some meth.sig)) = true) : (Jvm.Cond.code y bytes mx rt).before a s = true := by
  simp only [Bool.and_eq_true, beq_iff_eq, Bool.not_eq_true', decide_eq_true_eq] at h5
  obtain ⟨⟨⟨⟨⟨g1, g2⟩, g3⟩, g4⟩, g5⟩, g6⟩ := h5
  simp [Cond.before, Cond.holds, Cond.value, h1, h2, h3, h4, g1, g2, g3, g4, g5, g6]
def isCode : Jvm.Cond → Bool
  | .code _ _ _ _ => true
  | _ => false
theorem all_split {L : List Jvm.Cond} {P : Jvm.Cond → Bool} (h1 : L.all (fun c => isCode c || P c) = true) (h2 : ∀ c ∈ L.filter isCode, P c = true) : L.all P = true := by
  refine List.all_eq_true.mpr fun c hc => ?_
  have h := List.all_eq_true.mp h1 c hc
  rcases Bool.eq_false_or_eq_true (isCode c) with hi | hi
  · exact h2 c (List.mem_filter.mpr ⟨hc, hi⟩)
  · simpa [hi] using h
set_option maxRecDepth 65536 in
theorem w_c0 : (Jvm.Cond.code x code maxLocals ret).before args0 about1 = true := code_word (m := ⟨1, 1⟩) (meth := k1m1) (c := k1c1) (by decide +kernel) rfl rfl rfl (by decide +kernel)
set_option maxRecDepth 65536 in
theorem w_c1 : (Jvm.Cond.code ({ cls := "StrideScheduler", name := "<init>", desc := "(I)V" } : Jvm.MethodName) prog_1_method_1_code (3 : Nat) (Option.none : Option Jvm.ClassFile.FieldType)).before args0 about1 = true := code_word (m := ⟨2, 0⟩) (meth := k2m0) (c := k2c0) (by decide +kernel) rfl rfl rfl (by decide +kernel)
set_option maxRecDepth 65536 in
theorem w_c2 : (Jvm.Cond.code ({ cls := "java/lang/Object", name := "<init>", desc := "()V" } : Jvm.MethodName) object_method_1_code (1 : Nat) (Option.none : Option Jvm.ClassFile.FieldType)).before args0 about1 = true := code_word (m := ⟨0, 0⟩) (meth := k0m0) (c := k0c0) (by decide +kernel) rfl rfl rfl (by decide +kernel)
set_option maxRecDepth 65536 in
theorem w_c3 : (Jvm.Cond.code ({ cls := "StrideScheduler", name := "createCurrency", desc := "(II)I" } : Jvm.MethodName) prog_1_method_2_code (4 : Nat) (Option.some Jvm.ClassFile.FieldType.int)).before args0 about1 = true := code_word (m := ⟨2, 1⟩) (meth := k2m1) (c := k2c1) (by decide +kernel) rfl rfl rfl (by decide +kernel)
set_option maxRecDepth 65536 in
theorem w_c4 : (Jvm.Cond.code ({ cls := "StrideScheduler", name := "validAmount", desc := "(I)Z" } : Jvm.MethodName) prog_1_method_13_code (2 : Nat) (Option.some Jvm.ClassFile.FieldType.boolean)).before args0 about1 = true := code_word (m := ⟨2, 7⟩) (meth := k2m7) (c := k2c7) (by decide +kernel) rfl rfl rfl (by decide +kernel)
set_option maxRecDepth 65536 in
theorem w_c5 : (Jvm.Cond.code ({ cls := "StrideScheduler", name := "addClient", desc := "(II)I" } : Jvm.MethodName) prog_1_method_3_code (4 : Nat) (Option.some Jvm.ClassFile.FieldType.int)).before args0 about1 = true := code_word (m := ⟨2, 2⟩) (meth := k2m2) (c := k2c2) (by decide +kernel) rfl rfl rfl (by decide +kernel)
set_option maxRecDepth 65536 in
theorem w_c6 : (Jvm.Cond.code ({ cls := "StrideScheduler", name := "snapshot", desc := "()V" } : Jvm.MethodName) prog_1_method_18_code (2 : Nat) (Option.none : Option Jvm.ClassFile.FieldType)).before args0 about1 = true := code_word (m := ⟨2, 10⟩) (meth := k2m10) (c := k2c10) (by decide +kernel) rfl rfl rfl (by decide +kernel)
set_option maxRecDepth 65536 in
theorem w_c7 : (Jvm.Cond.code ({ cls := "StrideScheduler", name := "epochStart", desc := "()V" } : Jvm.MethodName) prog_1_method_27_code (4 : Nat) (Option.none : Option Jvm.ClassFile.FieldType)).before args0 about1 = true := code_word (m := ⟨2, 19⟩) (meth := k2m19) (c := k2c19) (by decide +kernel) rfl rfl rfl (by decide +kernel)
set_option maxRecDepth 65536 in
theorem w_c8 : (Jvm.Cond.code ({ cls := "StrideScheduler", name := "refresh", desc := "()V" } : Jvm.MethodName) prog_1_method_19_code (1 : Nat) (Option.none : Option Jvm.ClassFile.FieldType)).before args0 about1 = true := code_word (m := ⟨2, 11⟩) (meth := k2m11) (c := k2c11) (by decide +kernel) rfl rfl rfl (by decide +kernel)
set_option maxRecDepth 65536 in
theorem w_c9 : (Jvm.Cond.code ({ cls := "StrideScheduler", name := "computeHolders", desc := "()V" } : Jvm.MethodName) prog_1_method_21_code (3 : Nat) (Option.none : Option Jvm.ClassFile.FieldType)).before args0 about1 = true := code_word (m := ⟨2, 13⟩) (meth := k2m13) (c := k2c13) (by decide +kernel) rfl rfl rfl (by decide +kernel)
set_option maxRecDepth 65536 in
theorem w_c10 : (Jvm.Cond.code ({ cls := "StrideScheduler", name := "findHolder", desc := "(I)I" } : Jvm.MethodName) prog_1_method_20_code (5 : Nat) (Option.some Jvm.ClassFile.FieldType.int)).before args0 about1 = true := code_word (m := ⟨2, 12⟩) (meth := k2m12) (c := k2c12) (by decide +kernel) rfl rfl rfl (by decide +kernel)
set_option maxRecDepth 65536 in
theorem w_c11 : (Jvm.Cond.code ({ cls := "StrideScheduler", name := "computeIssued", desc := "()V" } : Jvm.MethodName) prog_1_method_22_code (5 : Nat) (Option.none : Option Jvm.ClassFile.FieldType)).before args0 about1 = true := code_word (m := ⟨2, 14⟩) (meth := k2m14) (c := k2c14) (by decide +kernel) rfl rfl rfl (by decide +kernel)
set_option maxRecDepth 65536 in
theorem w_c12 : (Jvm.Cond.code ({ cls := "StrideScheduler", name := "computeWorth", desc := "()V" } : Jvm.MethodName) prog_1_method_23_code (3 : Nat) (Option.none : Option Jvm.ClassFile.FieldType)).before args0 about1 = true := code_word (m := ⟨2, 15⟩) (meth := k2m15) (c := k2c15) (by decide +kernel) rfl rfl rfl (by decide +kernel)
set_option maxRecDepth 65536 in
theorem w_c13 : (Jvm.Cond.code ({ cls := "StrideScheduler", name := "computeValues", desc := "()V" } : Jvm.MethodName) prog_1_method_24_code (3 : Nat) (Option.none : Option Jvm.ClassFile.FieldType)).before args0 about1 = true := code_word (m := ⟨2, 16⟩) (meth := k2m16) (c := k2c16) (by decide +kernel) rfl rfl rfl (by decide +kernel)
set_option maxRecDepth 65536 in
theorem w_c14 : (Jvm.Cond.code ({ cls := "StrideScheduler", name := "computeTickets", desc := "()V" } : Jvm.MethodName) prog_1_method_25_code (4 : Nat) (Option.none : Option Jvm.ClassFile.FieldType)).before args0 about1 = true := code_word (m := ⟨2, 17⟩) (meth := k2m17) (c := k2c17) (by decide +kernel) rfl rfl rfl (by decide +kernel)
set_option maxRecDepth 65536 in
theorem w_c15 : (Jvm.Cond.code ({ cls := "StrideScheduler", name := "leastPassOfP", desc := "()J" } : Jvm.MethodName) prog_1_method_26_code (5 : Nat) (Option.some Jvm.ClassFile.FieldType.long)).before args0 about1 = true := code_word (m := ⟨2, 18⟩) (meth := k2m18) (c := k2c18) (by decide +kernel) rfl rfl rfl (by decide +kernel)
set_option maxRecDepth 65536 in
theorem w_c16 : (Jvm.Cond.code ({ cls := "StrideScheduler", name := "rescale", desc := "(IJ)V" } : Jvm.MethodName) prog_1_method_28_code (7 : Nat) (Option.none : Option Jvm.ClassFile.FieldType)).before args0 about1 = true := code_word (m := ⟨2, 20⟩) (meth := k2m20) (c := k2c20) (by decide +kernel) rfl rfl rfl (by decide +kernel)
set_option maxRecDepth 65536 in
theorem w_c17 : (Jvm.Cond.code ({ cls := "StrideScheduler", name := "dispatch", desc := "(I)I" } : Jvm.MethodName) prog_1_method_9_code (5 : Nat) (Option.some Jvm.ClassFile.FieldType.int)).before args0 about1 = true := code_word (m := ⟨2, 3⟩) (meth := k2m3) (c := k2c3) (by decide +kernel) rfl rfl rfl (by decide +kernel)
set_option maxRecDepth 65536 in
theorem w_c18 : (Jvm.Cond.code ({ cls := "StrideScheduler", name := "pickLeast", desc := "()I" } : Jvm.MethodName) prog_1_method_16_code (3 : Nat) (Option.some Jvm.ClassFile.FieldType.int)).before args0 about1 = true := code_word (m := ⟨2, 8⟩) (meth := k2m8) (c := k2c8) (by decide +kernel) rfl rfl rfl (by decide +kernel)
set_option maxRecDepth 65536 in
theorem w_c19 : (Jvm.Cond.code ({ cls := "StrideScheduler", name := "getClient", desc := "(II)I" } : Jvm.MethodName) prog_1_method_10_code (3 : Nat) (Option.some Jvm.ClassFile.FieldType.int)).before args0 about1 = true := code_word (m := ⟨2, 4⟩) (meth := k2m4) (c := k2c4) (by decide +kernel) rfl rfl rfl (by decide +kernel)
set_option maxRecDepth 65536 in
theorem w_c20 : (Jvm.Cond.code ({ cls := "StrideScheduler", name := "ticketsOf", desc := "(I)I" } : Jvm.MethodName) prog_1_method_17_code (2 : Nat) (Option.some Jvm.ClassFile.FieldType.int)).before args0 about1 = true := code_word (m := ⟨2, 9⟩) (meth := k2m9) (c := k2c9) (by decide +kernel) rfl rfl rfl (by decide +kernel)
set_option maxRecDepth 65536 in
theorem w_c21 : (Jvm.Cond.code ({ cls := "StrideScheduler", name := "getCount", desc := "(I)I" } : Jvm.MethodName) prog_1_method_12_code (2 : Nat) (Option.some Jvm.ClassFile.FieldType.int)).before args0 about1 = true := code_word (m := ⟨2, 6⟩) (meth := k2m6) (c := k2c6) (by decide +kernel) rfl rfl rfl (by decide +kernel)
set_option maxRecDepth 65536 in
theorem w_c22 : (Jvm.Cond.code ({ cls := "StrideScheduler", name := "getCurrency", desc := "(II)I" } : Jvm.MethodName) prog_1_method_11_code (3 : Nat) (Option.some Jvm.ClassFile.FieldType.int)).before args0 about1 = true := code_word (m := ⟨2, 5⟩) (meth := k2m5) (c := k2c5) (by decide +kernel) rfl rfl rfl (by decide +kernel)
def codes1 : List Jvm.Cond := [Jvm.Cond.code x code maxLocals ret, Jvm.Cond.code ({ cls := "StrideScheduler", name := "<init>", desc := "(I)V" } : Jvm.MethodName) prog_1_method_1_code (3 : Nat) (Option.none : Option Jvm.ClassFile.FieldType), Jvm.Cond.code ({ cls := "java/lang/Object", name := "<init>", desc := "()V" } : Jvm.MethodName) object_method_1_code (1 : Nat) (Option.none : Option Jvm.ClassFile.FieldType), Jvm.Cond.code ({ cls := "StrideScheduler", name := "createCurrency", desc := "(II)I" } : Jvm.MethodName) prog_1_method_2_code (4 : Nat) (Option.some Jvm.ClassFile.FieldType.int), Jvm.Cond.code ({ cls := "StrideScheduler", name := "validAmount", desc := "(I)Z" } : Jvm.MethodName) prog_1_method_13_code (2 : Nat) (Option.some Jvm.ClassFile.FieldType.boolean), Jvm.Cond.code ({ cls := "StrideScheduler", name := "addClient", desc := "(II)I" } : Jvm.MethodName) prog_1_method_3_code (4 : Nat) (Option.some Jvm.ClassFile.FieldType.int), Jvm.Cond.code ({ cls := "StrideScheduler", name := "snapshot", desc := "()V" } : Jvm.MethodName) prog_1_method_18_code (2 : Nat) (Option.none : Option Jvm.ClassFile.FieldType), Jvm.Cond.code ({ cls := "StrideScheduler", name := "epochStart", desc := "()V" } : Jvm.MethodName) prog_1_method_27_code (4 : Nat) (Option.none : Option Jvm.ClassFile.FieldType), Jvm.Cond.code ({ cls := "StrideScheduler", name := "refresh", desc := "()V" } : Jvm.MethodName) prog_1_method_19_code (1 : Nat) (Option.none : Option Jvm.ClassFile.FieldType), Jvm.Cond.code ({ cls := "StrideScheduler", name := "computeHolders", desc := "()V" } : Jvm.MethodName) prog_1_method_21_code (3 : Nat) (Option.none : Option Jvm.ClassFile.FieldType), Jvm.Cond.code ({ cls := "StrideScheduler", name := "findHolder", desc := "(I)I" } : Jvm.MethodName) prog_1_method_20_code (5 : Nat) (Option.some Jvm.ClassFile.FieldType.int), Jvm.Cond.code ({ cls := "StrideScheduler", name := "computeIssued", desc := "()V" } : Jvm.MethodName) prog_1_method_22_code (5 : Nat) (Option.none : Option Jvm.ClassFile.FieldType), Jvm.Cond.code ({ cls := "StrideScheduler", name := "computeWorth", desc := "()V" } : Jvm.MethodName) prog_1_method_23_code (3 : Nat) (Option.none : Option Jvm.ClassFile.FieldType), Jvm.Cond.code ({ cls := "StrideScheduler", name := "computeValues", desc := "()V" } : Jvm.MethodName) prog_1_method_24_code (3 : Nat) (Option.none : Option Jvm.ClassFile.FieldType), Jvm.Cond.code ({ cls := "StrideScheduler", name := "computeTickets", desc := "()V" } : Jvm.MethodName) prog_1_method_25_code (4 : Nat) (Option.none : Option Jvm.ClassFile.FieldType), Jvm.Cond.code ({ cls := "StrideScheduler", name := "leastPassOfP", desc := "()J" } : Jvm.MethodName) prog_1_method_26_code (5 : Nat) (Option.some Jvm.ClassFile.FieldType.long), Jvm.Cond.code ({ cls := "StrideScheduler", name := "rescale", desc := "(IJ)V" } : Jvm.MethodName) prog_1_method_28_code (7 : Nat) (Option.none : Option Jvm.ClassFile.FieldType), Jvm.Cond.code ({ cls := "StrideScheduler", name := "dispatch", desc := "(I)I" } : Jvm.MethodName) prog_1_method_9_code (5 : Nat) (Option.some Jvm.ClassFile.FieldType.int), Jvm.Cond.code ({ cls := "StrideScheduler", name := "pickLeast", desc := "()I" } : Jvm.MethodName) prog_1_method_16_code (3 : Nat) (Option.some Jvm.ClassFile.FieldType.int), Jvm.Cond.code ({ cls := "StrideScheduler", name := "getClient", desc := "(II)I" } : Jvm.MethodName) prog_1_method_10_code (3 : Nat) (Option.some Jvm.ClassFile.FieldType.int), Jvm.Cond.code ({ cls := "StrideScheduler", name := "ticketsOf", desc := "(I)I" } : Jvm.MethodName) prog_1_method_17_code (2 : Nat) (Option.some Jvm.ClassFile.FieldType.int), Jvm.Cond.code ({ cls := "StrideScheduler", name := "getCount", desc := "(I)I" } : Jvm.MethodName) prog_1_method_12_code (2 : Nat) (Option.some Jvm.ClassFile.FieldType.int), Jvm.Cond.code ({ cls := "StrideScheduler", name := "getCurrency", desc := "(II)I" } : Jvm.MethodName) prog_1_method_11_code (3 : Nat) (Option.some Jvm.ClassFile.FieldType.int)]
set_option maxRecDepth 65536 in
theorem codes_eq : words1.filter isCode = codes1 := rfl
theorem w_codes : ∀ c ∈ words1.filter isCode, c.before args0 about1 = true := by
  rw [codes_eq]
  intro c hc
  simp only [codes1, List.mem_cons, List.not_mem_nil, or_false] at hc
  rcases hc with rfl | rfl | rfl | rfl | rfl | rfl | rfl | rfl | rfl | rfl | rfl | rfl | rfl | rfl | rfl | rfl | rfl | rfl | rfl | rfl | rfl | rfl | rfl
  · exact w_c0
  · exact w_c1
  · exact w_c2
  · exact w_c3
  · exact w_c4
  · exact w_c5
  · exact w_c6
  · exact w_c7
  · exact w_c8
  · exact w_c9
  · exact w_c10
  · exact w_c11
  · exact w_c12
  · exact w_c13
  · exact w_c14
  · exact w_c15
  · exact w_c16
  · exact w_c17
  · exact w_c18
  · exact w_c19
  · exact w_c20
  · exact w_c21
  · exact w_c22
set_option maxRecDepth 65536 in
theorem w_t1 : (words1.take 24).all (fun c => isCode c || c.before args0 about1) = true := by decide +kernel
set_option maxRecDepth 65536 in
theorem w_t2 : ((words1.drop 24).take 24).all (fun c => isCode c || c.before args0 about1) = true := by decide +kernel
set_option maxRecDepth 65536 in
theorem w_t3 : (((words1.drop 24).drop 24).take 24).all (fun c => isCode c || c.before args0 about1) = true := by decide +kernel
set_option maxRecDepth 65536 in
theorem w_t4 : ((((words1.drop 24).drop 24).drop 24).take 24).all (fun c => isCode c || c.before args0 about1) = true := by decide +kernel
set_option maxRecDepth 65536 in
theorem w_t5 : (((((words1.drop 24).drop 24).drop 24).drop 24).take 24).all (fun c => isCode c || c.before args0 about1) = true := by decide +kernel
set_option maxRecDepth 65536 in
theorem w_t6 : ((((((words1.drop 24).drop 24).drop 24).drop 24).drop 24).take 24).all (fun c => isCode c || c.before args0 about1) = true := by decide +kernel
set_option maxRecDepth 65536 in
theorem w_t7 : ((((((words1.drop 24).drop 24).drop 24).drop 24).drop 24).drop 24).all (fun c => isCode c || c.before args0 about1) = true := by decide +kernel
theorem w_tables : (allAtoms (Jvm.Cond.code x code maxLocals ret :: tables_1)).before args0 about1 = true := by
  rw [allAtoms_all]
  show words1.all (fun c => c.before args0 about1) = true
  refine all_split ?_ w_codes
  rw [← List.take_append_drop 24 words1, List.all_append, w_t1, ← List.take_append_drop 24 (words1.drop 24), List.all_append, w_t2, ← List.take_append_drop 24 ((words1.drop 24).drop 24), List.all_append, w_t3, ← List.take_append_drop 24 (((words1.drop 24).drop 24).drop 24), List.all_append, w_t4, ← List.take_append_drop 24 ((((words1.drop 24).drop 24).drop 24).drop 24), List.all_append, w_t5, ← List.take_append_drop 24 (((((words1.drop 24).drop 24).drop 24).drop 24).drop 24), List.all_append, w_t6, w_t7]
  rfl
set_option maxRecDepth 65536 in
theorem w_case : (Jvm.Cond.and given_1 narrow_1).before args0 about1 = true := by decide +kernel
theorem w_applies : (headSpec (Jvm.Cond.code x code maxLocals ret :: tables_1) room_1).applies x e0.platform about1 = true :=
  (Spec.applies_iff w_frames).mpr ⟨w_running, w_runnable, w_alone, w_named, w_hears, w_ripe, w_room, w_tables⟩
theorem atStart : AtStart classFile x code maxLocals ret World_1 tables_1 room_1 Calls_1 rest_1 Pre_1 launch0 p0 e0 about1 theMethod args0 below0 :=
  ⟨lists_1, trivial, launch0.admits_env _ _ _, launch0.least_env, fairChoices_fair.cas, fairChoices_fair.clock, w_frames, w_args, w_heap, w_applies, trivial, trivial, w_case⟩
end start1
theorem witness_1 : WitnessClaimed_1 := ⟨start1.p0, start1.e0, start1.about1, start1.theMethod, start1.args0, start1.below0, start1.atStart⟩
end Jvm.Pilot.@@N@@
