import JvmDerived
import JvmDerived.Pilot.@@N@@Statement
import JvmDerived.Pilot.@@N@@Code
set_option linter.unusedVariables false
set_option linter.unusedSimpArgs false
@@BLOCK:NumsL.lean.txt@@
namespace Jvm.LM
open Sem ClassFile Op Lib Jvm.Stand Jvm.Free Jvm.LawKit Jvm.RoadKit
/-! A small machine over plain data that mirrors the bytecode of one class and of a law over it. -/
abbrev Lv := List (Option Value)
abbrev St := (Nat → Nat → Int32) × (Nat → Nat → Int64)
abbrev Cd := List (Nat × Instr × Nat)
/-- name, descriptor, kind (0 int, 1 boolean, 2 long, 3+j the j-th array), final -/
abbrev Fe := String × String × Nat × Bool
/-- name, descriptor, number of arguments, return kind (0 none, 1 int, 2 boolean, 3 long), code, max_locals, room: frames, locals -/
abbrev Me := String × String × Nat × Nat × Cd × Nat × Nat × Nat
/-- class name, fields, arrays (kind, length), pool to field, pool to method, pool to constant, methods, pool index of Object's constructor -/
abbrev Cl := String × List (Nat × Fe) × List (Nat × Nat) × List (Nat × Nat) × List (Nat × Nat) × List (Nat × Value) × List (Nat × Me) × Nat
def Me.nm (m : Me) : String := m.1
def Me.ds (m : Me) : String := m.2.1
def Me.na (m : Me) : Nat := m.2.2.1
def Me.rt (m : Me) : Nat := m.2.2.2.1
def Me.cd (m : Me) : Cd := m.2.2.2.2.1
def Me.ml (m : Me) : Nat := m.2.2.2.2.2.1
def Me.rf (m : Me) : Nat := m.2.2.2.2.2.2.1
def Me.rl (m : Me) : Nat := m.2.2.2.2.2.2.2
def Cl.nm (P : Cl) : String := P.1
def Cl.fs (P : Cl) : List (Nat × Fe) := P.2.1
def Cl.al (P : Cl) : List (Nat × Nat) := P.2.2.1
def Cl.fx (P : Cl) : List (Nat × Nat) := P.2.2.2.1
def Cl.mx (P : Cl) : List (Nat × Nat) := P.2.2.2.2.1
def Cl.kx (P : Cl) : List (Nat × Value) := P.2.2.2.2.2.1
def Cl.ms (P : Cl) : List (Nat × Me) := P.2.2.2.2.2.2.1
def Cl.oi (P : Cl) : Nat := P.2.2.2.2.2.2.2
def gI (s : St) (c j : Nat) : Int32 := s.1 c j
def gL (s : St) (c j : Nat) : Int64 := s.2 c j
def sI (s : St) (c j : Nat) (v : Int32) : St := (fun a b => if a = c ∧ b = j then v else s.1 a b, s.2)
def sL (s : St) (c j : Nat) (v : Int64) : St := (s.1, fun a b => if a = c ∧ b = j then v else s.2 a b)
def s0 : St := (fun _ _ => 0, fun _ _ => 0)
def ix (i : Int32) : Nat := i.toNatClampNeg
abbrev inb (n : Nat) (i : Int32) : Prop := 0 ≤ i.toInt ∧ i.toInt < (n : Int)
def asc {α : Type} : List (Nat × α) → Nat → Option α
  | [], _ => none
  | (a, b) :: r, k => match Nat.beq a k with
    | true => some b
    | false => asc r k
def fetch : Cd → Nat → Option (Instr × Nat)
  | [], _ => none
  | (a, b) :: r, k => match Nat.beq a k with
    | true => some b
    | false => fetch r k
def ilen : Instr → Nat
  | .iload _ => 2 | .lload _ => 2 | .aload _ => 2 | .istore _ => 2 | .lstore _ => 2 | .astore _ => 2 | .bipush _ => 2 | .ldc _ => 2 | .newarray _ => 2
  | .sipush _ => 3 | .iinc _ _ => 3 | .goto _ => 3 | .ifCond _ _ => 3 | .if_icmp _ _ => 3 | .getfield _ => 3 | .putfield _ => 3
  | .invokevirtual _ => 3 | .invokespecial _ => 3 | .invokestatic _ => 3 | .new _ => 3 | .ldc2_w _ => 3
  | _ => 1
def isSw : Instr → Bool
  | .tableswitch _ _ _ _ => true
  | _ => false
def clr (ls : Lv) : Nat → Lv
  | 0 => ls
  | j + 1 => match ls[j]? with
    | some (some (.long _)) => ls.set j none
    | some (some (.double _)) => ls.set j none
    | _ => ls
/-- a store into the local variables: a long takes two -/
def stl (ls : Lv) (i : Nat) (v : Value) : Option Lv :=
  match v with
  | .long x => if i + 1 < ls.length then some (((clr ls i).set i (some (.long x))).set (i + 1) none) else none
  | w => if i < ls.length then some ((clr ls i).set i (some w)) else none
def br (cd : ClassFile.Cond) (x y : Int32) (a b : Nat) : Nat :=
  match cd with
  | .eq => if x = y then a else b
  | .ne => if x = y then b else a
  | .lt => if x < y then a else b
  | .ge => if x < y then b else a
  | .gt => if y < x then a else b
  | .le => if y < x then b else a
def jmp (pc : Nat) (o : Int) : Nat := ((pc : Int) + o).toNat
def qstep (i : Instr) (pc : Nat) (st : List Value) : Option (Nat × List Value) :=
  match i with
  | .iconst v => some (pc + 1, .int (Int32.ofInt v) :: st)
  | .bipush v => some (pc + 2, .int (Int8.ofInt v).toInt32 :: st)
  | .sipush v => some (pc + 3, .int (Int16.ofInt v).toInt32 :: st)
  | .lconst k => some (pc + 1, .long (Int64.ofNat k) :: st)
  | .iadd => match st with | .int y :: .int x :: r => some (pc + 1, .int (x + y) :: r) | _ => none
  | .isub => match st with | .int y :: .int x :: r => some (pc + 1, .int (x - y) :: r) | _ => none
  | .imul => match st with | .int y :: .int x :: r => some (pc + 1, .int (x * y) :: r) | _ => none
  | .iand => match st with | .int y :: .int x :: r => some (pc + 1, .int (x &&& y) :: r) | _ => none
  | .ior => match st with | .int y :: .int x :: r => some (pc + 1, .int (x ||| y) :: r) | _ => none
  | .ixor => match st with | .int y :: .int x :: r => some (pc + 1, .int (x ^^^ y) :: r) | _ => none
  | .ishl => match st with | .int y :: .int x :: r => some (pc + 1, .int (x <<< (y &&& 31)) :: r) | _ => none
  | .ishr => match st with | .int y :: .int x :: r => some (pc + 1, .int (x >>> (y &&& 31)) :: r) | _ => none
  | .iushr => match st with | .int y :: .int x :: r => some (pc + 1, .int (XT.ushr x y) :: r) | _ => none
  | .idiv => match st with | .int y :: .int x :: r => if y = 0 then none else some (pc + 1, .int (x / y) :: r) | _ => none
  | .irem => match st with | .int y :: .int x :: r => if y = 0 then none else some (pc + 1, .int (x % y) :: r) | _ => none
  | .ineg => match st with | .int x :: r => some (pc + 1, .int (-x) :: r) | _ => none
  | .ladd => match st with | .long y :: .long x :: r => some (pc + 1, .long (x + y) :: r) | _ => none
  | .lsub => match st with | .long y :: .long x :: r => some (pc + 1, .long (x - y) :: r) | _ => none
  | .lmul => match st with | .long y :: .long x :: r => some (pc + 1, .long (x * y) :: r) | _ => none
  | .land => match st with | .long y :: .long x :: r => some (pc + 1, .long (x &&& y) :: r) | _ => none
  | .lor => match st with | .long y :: .long x :: r => some (pc + 1, .long (x ||| y) :: r) | _ => none
  | .lxor => match st with | .long y :: .long x :: r => some (pc + 1, .long (x ^^^ y) :: r) | _ => none
  | .lshl => match st with | .int y :: .long x :: r => some (pc + 1, .long (x <<< (y.toInt64 &&& 63)) :: r) | _ => none
  | .lshr => match st with | .int y :: .long x :: r => some (pc + 1, .long (x >>> (y.toInt64 &&& 63)) :: r) | _ => none
  | .lushr => match st with | .int y :: .long x :: r => some (pc + 1, .long (XT.ushrL x y) :: r) | _ => none
  | .ldiv => match st with | .long y :: .long x :: r => if y = 0 then none else some (pc + 1, .long (x / y) :: r) | _ => none
  | .lneg => match st with | .long x :: r => some (pc + 1, .long (-x) :: r) | _ => none
  | .lcmp => match st with | .long y :: .long x :: r => some (pc + 1, .int (XT.cmpL x y) :: r) | _ => none
  | .i2l => match st with | .int x :: r => some (pc + 1, .long x.toInt64 :: r) | _ => none
  | .l2i => match st with | .long x :: r => some (pc + 1, .int x.toInt32 :: r) | _ => none
  | .dup => match st with | .int x :: r => some (pc + 1, .int x :: .int x :: r) | .ref x :: r => some (pc + 1, .ref x :: .ref x :: r) | _ => none
  | .pop => match st with | .int _ :: r => some (pc + 1, r) | .ref _ :: r => some (pc + 1, r) | _ => none
  | .goto o => if 0 ≤ (pc : Int) + o then some (jmp pc o, st) else none
  | .ifCond cd o => match st with | .int x :: r => if 0 ≤ (pc : Int) + o then some (br cd x 0 (jmp pc o) (pc + 3), r) else none | _ => none
  | .if_icmp cd o => match st with | .int y :: .int x :: r => if 0 ≤ (pc : Int) + o then some (br cd x y (jmp pc o) (pc + 3), r) else none | _ => none
  | .tableswitch d lo hi offs => match st with
    | .int x :: r => if x.toInt < lo ∨ x.toInt > hi then (if 0 ≤ (pc : Int) + d then some (jmp pc d, r) else none)
      else (match offs[(x.toInt - lo).toNat]? with | some o => if 0 ≤ (pc : Int) + o then some (jmp pc o, r) else none | none => none)
    | _ => none
  | _ => none
def pstep (i : Instr) (pc : Nat) (ls : Lv) (st : List Value) : Option (Nat × Lv × List Value) :=
  match i with
  | .iload_n k => match ls[k.val]? with | some (some (.int v)) => some (pc + 1, ls, .int v :: st) | _ => none
  | .iload k => match ls[k]? with | some (some (.int v)) => some (pc + 2, ls, .int v :: st) | _ => none
  | .lload_n k => match ls[k.val]? with | some (some (.long v)) => some (pc + 1, ls, .long v :: st) | _ => none
  | .lload k => match ls[k]? with | some (some (.long v)) => some (pc + 2, ls, .long v :: st) | _ => none
  | .aload_n k => match ls[k.val]? with | some (some (.ref v)) => some (pc + 1, ls, .ref v :: st) | _ => none
  | .aload k => match ls[k]? with | some (some (.ref v)) => some (pc + 2, ls, .ref v :: st) | _ => none
  | .istore_n k => match st with | .int v :: r => (match stl ls k.val (.int v) with | some l => some (pc + 1, l, r) | none => none) | _ => none
  | .istore k => match st with | .int v :: r => (match stl ls k (.int v) with | some l => some (pc + 2, l, r) | none => none) | _ => none
  | .lstore_n k => match st with | .long v :: r => (match stl ls k.val (.long v) with | some l => some (pc + 1, l, r) | none => none) | _ => none
  | .lstore k => match st with | .long v :: r => (match stl ls k (.long v) with | some l => some (pc + 2, l, r) | none => none) | _ => none
  | .astore_n k => match st with | .ref v :: r => (match stl ls k.val (.ref v) with | some l => some (pc + 1, l, r) | none => none) | _ => none
  | .astore k => match st with | .ref v :: r => (match stl ls k (.ref v) with | some l => some (pc + 2, l, r) | none => none) | _ => none
  | .iinc k d => match ls[k]? with | some (some (.int v)) => (match stl ls k (.int (v + Int32.ofInt d)) with | some l => some (pc + 3, l, st) | none => none) | _ => none
  | i => match qstep i pc st with | some (pc', st') => some (pc', ls, st') | none => none
/-- how the machine's references stand in the heap -/
def va (ρ : Nat → Nat) : Value → Value
  | .ref c => .ref (ρ c)
  | v => v
def WF (L : Array Slot) : Prop :=
  (∀ (k : Nat) (v : Value), L[k]? = some (Slot.val v) → v.category = 2 → L[k + 1]? = some .second) ∧
  (∀ k : Nat, L[k + 1]? = some Slot.second → ∃ v : Value, L[k]? = some (Slot.val v) ∧ v.category = 2) ∧ L[0]? ≠ some Slot.second
def LR (ρ : Nat → Nat) (ls : Lv) (L : Array Slot) : Prop :=
  L.size = ls.length ∧ (∀ (k : Nat) (v : Value), ls[k]? = some (some v) → L[k]? = some (Slot.val (va ρ v))) ∧ WF L
end Jvm.LM

namespace Jvm.LM
open Sem ClassFile Op Lib Jvm.Stand Jvm.Free Jvm.LawKit Jvm.RoadKit
/-! the local variables -/
def upd (f : Nat → Option Slot) (i : Nat) (x : Slot) : Nat → Option Slot := fun k => if k = i then some x else f k
def WFf (f : Nat → Option Slot) : Prop :=
  (∀ k v, f k = some (.val v) → v.category = 2 → f (k + 1) = some .second) ∧
  (∀ k, f (k + 1) = some .second → ∃ v, f k = some (.val v) ∧ v.category = 2) ∧ f 0 ≠ some .second
def clearF (f : Nat → Option Slot) (i : Nat) : Nat → Option Slot :=
  match f i with
  | some .second => upd (upd f (i - 1) .unset) i .unset
  | some (.val old) => if old.category = 2 then upd (upd f (i + 1) .unset) i .unset else upd f i .unset
  | _ => f
theorem clearF_cases (f : Nat → Option Slot) (i : Nat) : (f i = some .second ∧ clearF f i = upd (upd f (i - 1) .unset) i .unset) ∨ (∃ old, f i = some (.val old) ∧ old.category = 2 ∧ clearF f i = upd (upd f (i + 1) .unset) i .unset) ∨
    (∃ old, f i = some (.val old) ∧ old.category ≠ 2 ∧ clearF f i = upd f i .unset) ∨ ((f i = some .unset ∨ f i = none) ∧ clearF f i = f) := by
  cases h : f i with
  | none => exact Or.inr (Or.inr (Or.inr ⟨Or.inr rfl, by simp only [clearF, h]⟩))
  | some x =>
    cases x with
    | unset => exact Or.inr (Or.inr (Or.inr ⟨Or.inl rfl, by simp only [clearF, h]⟩))
    | second => exact Or.inl ⟨rfl, by simp only [clearF, h]⟩
    | val old =>
      by_cases hc : old.category = 2
      · exact Or.inr (Or.inl ⟨old, rfl, hc, by simp only [clearF, h]; rw [if_pos hc]⟩)
      · exact Or.inr (Or.inr (Or.inl ⟨old, rfl, hc, by simp only [clearF, h]; rw [if_neg hc]⟩))
theorem wff_clear {f : Nat → Option Slot} (h : WFf f) (i : Nat) : WFf (clearF f i) := by
  obtain ⟨h1, h2, h3⟩ := h
  unfold clearF
  split
  · rename_i e
    cases i with
    | zero => exact absurd e h3
    | succ j =>
      refine ⟨fun k v hk hc => ?_, fun k hk => ?_, ?_⟩
      · simp only [upd, Nat.add_sub_cancel] at hk ⊢
        have := h1 k v
        by_cases a : k = j + 1
        · simp [a] at hk
        · by_cases b : k = j
          · simp [b] at hk
          · have c : k + 1 ≠ j + 1 := by omega
            simp only [a, b, if_false] at hk
            by_cases d : k + 1 = j
            · have := h1 k v hk hc
              obtain ⟨w, hw, hw2⟩ := h2 j e
              rw [d, hw] at this; cases this
            · simp [c, d, b, h1 k v hk hc]
      · simp only [upd, Nat.add_sub_cancel] at hk ⊢
        by_cases a : k = j
        · simp [a] at hk
        · by_cases b : k + 1 = j
          · simp [b] at hk
          · simp only [show ¬ (k + 1 = j + 1) by omega, b, if_false] at hk
            obtain ⟨w, hw, hw2⟩ := h2 k hk
            by_cases d : k = j + 1
            · rw [d, e] at hw; cases hw
            · exact ⟨w, by simp [d, a, hw], hw2⟩
      · simp only [upd, Nat.add_sub_cancel]
        by_cases b : 0 = j
        · simp [← b]
        · simp [b, h3]
  · rename_i old e
    split
    · rename_i hc2
      have e2 := h1 i old e hc2
      refine ⟨fun k v hk hc => ?_, fun k hk => ?_, ?_⟩
      · simp only [upd] at hk ⊢
        by_cases a : k = i
        · simp [a] at hk
        · by_cases b : k = i + 1
          · simp [b] at hk
          · simp only [a, b, if_false] at hk
            have q := h1 k v hk hc
            by_cases d : k + 1 = i
            · rw [d, e] at q; cases q
            · simp [d, a, show ¬ (k + 1 = i + 1) by omega, q]
      · simp only [upd] at hk ⊢
        by_cases a : k + 1 = i
        · simp [a] at hk
        · by_cases b : k = i
          · simp [b] at hk
          · simp only [a, show ¬ (k + 1 = i + 1) by omega, if_false] at hk
            obtain ⟨w, hw, hw2⟩ := h2 k hk
            by_cases d : k = i + 1
            · rw [d, e2] at hw; cases hw
            · exact ⟨w, by simp [d, b, hw], hw2⟩
      · simp only [upd]
        by_cases b : 0 = i
        · simp [← b]
        · simp [b, h3]
    · rename_i hc2
      refine ⟨fun k v hk hc => ?_, fun k hk => ?_, ?_⟩
      · simp only [upd] at hk ⊢
        by_cases a : k = i
        · simp [a] at hk
        · simp only [a, if_false] at hk
          have q := h1 k v hk hc
          by_cases d : k + 1 = i
          · rw [d, e] at q; cases q
          · simp [d, q]
      · simp only [upd] at hk ⊢
        by_cases a : k + 1 = i
        · simp [a] at hk
        · simp only [a, if_false] at hk
          obtain ⟨w, hw, hw2⟩ := h2 k hk
          by_cases d : k = i
          · rw [d, e] at hw; cases hw; exact absurd hw2 hc2
          · exact ⟨w, by simp [d, hw], hw2⟩
      · simp only [upd]
        by_cases b : 0 = i
        · simp [← b]
        · simp [b, h3]
  · exact ⟨h1, h2, h3⟩
theorem wff_one {f : Nat → Option Slot} (h : WFf f) {i : Nat} (e : f i = some .unset) {v : Value} (hv : v.category ≠ 2) : WFf (upd f i (.val v)) := by
  obtain ⟨h1, h2, h3⟩ := h
  refine ⟨fun k w hk hc => ?_, fun k hk => ?_, ?_⟩
  · simp only [upd] at hk ⊢
    by_cases a : k = i
    · simp only [a, if_true, Option.some.injEq, Slot.val.injEq] at hk; subst hk; exact absurd hc hv
    · simp only [a, if_false] at hk
      have q := h1 k w hk hc
      by_cases d : k + 1 = i
      · rw [d, e] at q; cases q
      · simp [d, q]
  · simp only [upd] at hk ⊢
    by_cases a : k + 1 = i
    · simp [a] at hk
    · simp only [a, if_false] at hk
      obtain ⟨w, hw, hw2⟩ := h2 k hk
      by_cases d : k = i
      · rw [d, e] at hw; cases hw
      · exact ⟨w, by simp [d, hw], hw2⟩
  · simp only [upd]
    by_cases b : 0 = i
    · simp [← b]
    · simp [b, h3]
theorem wff_two {f : Nat → Option Slot} (h : WFf f) {i : Nat} (e : f i = some .unset) (e' : f (i + 1) = some .unset) {v : Value} (hv : v.category = 2) : WFf (upd (upd f i (.val v)) (i + 1) .second) := by
  obtain ⟨h1, h2, h3⟩ := h
  refine ⟨fun k w hk hc => ?_, fun k hk => ?_, ?_⟩
  · simp only [upd] at hk ⊢
    by_cases a : k = i + 1
    · simp [a] at hk
    · by_cases b : k = i
      · simp [b]
      · simp only [a, b, if_false] at hk
        have q := h1 k w hk hc
        by_cases d : k + 1 = i
        · rw [d, e] at q; cases q
        · simp [d, show ¬ (k + 1 = i + 1) by omega, q]
  · simp only [upd] at hk ⊢
    by_cases a : k = i
    · exact ⟨v, by simp [a], hv⟩
    · by_cases b : k + 1 = i
      · simp [b] at hk
      · simp only [show ¬ (k + 1 = i + 1) by omega, b, if_false] at hk
        obtain ⟨w, hw, hw2⟩ := h2 k hk
        by_cases d : k = i + 1
        · rw [d, e'] at hw; cases hw
        · exact ⟨w, by simp [d, a, hw], hw2⟩
  · simp only [upd]
    by_cases b : 0 = i
    · simp [← b]
    · simp [b, h3]
theorem gset (L : Array Slot) {i : Nat} (hi : i < L.size) (x : Slot) : (fun k => (L.setIfInBounds i x)[k]?) = upd (fun k => L[k]?) i x := by
  funext k
  simp only [upd, Array.getElem?_setIfInBounds]
  by_cases a : i = k
  · subst a; simp [hi]
  · simp [a, show ¬ k = i from fun h => a h.symm]
theorem sl_eq (L : Array Slot) (i : Nat) (v : Value) : storeLocals L i v = (L[i]?).bind (fun x => match x with
    | .second => (setAt L (i - 1) .unset).bind (fun l => storeSelf l i v)
    | .val old => if old.category = 2 then (setAt L (i + 1) .unset).bind (fun l => storeSelf l i v) else storeSelf L i v
    | .unset => storeSelf L i v) := rfl
theorem ss_eq (L : Array Slot) (i : Nat) (v : Value) : storeSelf L i v = (setAt L i (.val v)).bind (fun l => if v.category = 2 then (l[i + 1]?).bind (fun x => match x with
    | .val old => if old.category = 2 then (setAt l (i + 2) .unset).bind (fun l' => setAt l' (i + 1) .second) else setAt l (i + 1) .second
    | _ => setAt l (i + 1) .second) else some l) := rfl
theorem sa_eq {L : Array Slot} {i : Nat} (hi : i < L.size) (x : Slot) : setAt L i x = some (L.setIfInBounds i x) := if_pos hi
theorem upd_upd (f : Nat → Option Slot) (i : Nat) (x y : Slot) : upd (upd f i x) i y = upd f i y := by
  funext k; simp only [upd]; split <;> rfl
/-- what a store clears first -/
theorem clear_ok {L : Array Slot} (hW : WF L) {i : Nat} (hi : i < L.size) (v : Value) : ∃ L1, storeLocals L i v = storeSelf L1 i v ∧ L1.size = L.size ∧ upd (fun k => L1[k]?) i .unset = upd (clearF (fun k => L[k]?) i) i .unset := by
  have hh : WFf (fun k => L[k]?) := hW
  obtain ⟨sl, hsl⟩ : ∃ sl, L[i]? = some sl := ⟨L[i], Array.getElem?_eq_getElem hi⟩
  rw [sl_eq, hsl, Option.bind_some]
  cases sl with
  | unset => exact ⟨L, rfl, rfl, by simp only [clearF, hsl]⟩
  | second =>
    refine ⟨L.setIfInBounds (i - 1) .unset, ?_, by simp, ?_⟩
    · show (setAt L (i - 1) .unset).bind _ = _
      rw [sa_eq (by omega)]; rfl
    · rw [gset _ (by omega)]; simp only [clearF, hsl, upd_upd]
  | val old =>
    by_cases hc : old.category = 2
    · have h2 := hh.1 i old hsl hc
      have hlt : i + 1 < L.size := (Array.getElem?_eq_some_iff.mp h2).1
      refine ⟨L.setIfInBounds (i + 1) .unset, ?_, by simp, ?_⟩
      · show (if old.category = 2 then _ else _) = _
        rw [if_pos hc, sa_eq hlt]; rfl
      · rw [gset _ hlt]; simp only [clearF, hsl, hc, if_true, upd_upd]
    · refine ⟨L, ?_, rfl, ?_⟩
      · show (if old.category = 2 then _ else _) = _
        rw [if_neg hc]
      · simp only [clearF, hsl, hc, if_false, upd_upd]
theorem clearF_at {f : Nat → Option Slot} {i : Nat} (hi : f i ≠ none) : clearF f i i = some .unset := by
  rcases clearF_cases f i with ⟨h1, h2⟩ | ⟨old, h1, h3, h2⟩ | ⟨old, h1, h3, h2⟩ | ⟨h1 | h1, h2⟩
  · rw [h2]; simp [upd]
  · rw [h2]; simp [upd]
  · rw [h2]; simp [upd]
  · rw [h2]; exact h1
  · exact absurd h1 hi
theorem clearF_self {f : Nat → Option Slot} {i : Nat} (hi : f i ≠ none) : upd (clearF f i) i .unset = clearF f i := by
  funext k; simp only [upd]; split
  · rename_i e; rw [e]; exact (clearF_at hi).symm
  · rfl
/-- the other variables: kept, or they held (a part of) a long -/
theorem clearF_keep {f : Nat → Option Slot} (h : WFf f) {i k : Nat} {w : Value} (hk : k ≠ i) (e : f k = some (.val w)) (hw : k + 1 = i → w.category ≠ 2) : clearF f i k = some (.val w) := by
  rcases clearF_cases f i with ⟨e2, h2⟩ | ⟨old, e2, hc, h2⟩ | ⟨old, e2, hc, h2⟩ | ⟨-, h2⟩
  · rw [h2]
    cases i with
    | zero => exact absurd e2 h.2.2
    | succ j =>
      simp only [upd, Nat.add_sub_cancel, hk, if_false]
      split
      · rename_i hj; subst hj
        obtain ⟨v, hv, hv2⟩ := h.2.1 k e2
        rw [e] at hv; cases hv; exact absurd hv2 (hw rfl)
      · exact e
  · rw [h2]
    have q := h.1 i old e2 hc
    simp only [upd, hk, if_false]
    split
    · rename_i hj; rw [hj, q] at e; cases e
    · exact e
  · rw [h2]; simp [upd, hk, e]
  · rw [h2]; exact e
theorem store_one {L : Array Slot} (hW : WF L) {i : Nat} (hi : i < L.size) {v : Value} (hv : v.category ≠ 2) :
    ∃ L', storeLocals L i v = some L' ∧ L'.size = L.size ∧ WF L' ∧ (fun k => L'[k]?) = upd (clearF (fun k => L[k]?) i) i (.val v) := by
  obtain ⟨L1, h1, h2, h3⟩ := clear_ok hW hi v
  have hne : (fun k => L[k]?) i ≠ none := by simp; omega
  have hi1 : i < L1.size := by omega
  refine ⟨L1.setIfInBounds i (.val v), ?_, by simp [h2], ?_, ?_⟩
  · rw [h1, ss_eq, sa_eq hi1, Option.bind_some, if_neg hv]
  · have q : (fun k => (L1.setIfInBounds i (.val v))[k]?) = upd (clearF (fun k => L[k]?) i) i (.val v) := by
      rw [gset _ hi1, ← upd_upd _ i .unset, h3, upd_upd]
    have w : WFf (fun k => (L1.setIfInBounds i (.val v))[k]?) := by
      rw [q]; exact wff_one (wff_clear hW i) (clearF_at hne) hv
    exact w
  · rw [gset _ hi1, ← upd_upd _ i .unset, h3, upd_upd]
theorem store_two {L : Array Slot} (hW : WF L) {i : Nat} (hi : i + 1 < L.size) {v : Value} (hv : v.category = 2) :
    ∃ L', storeLocals L i v = some L' ∧ L'.size = L.size ∧ WF L' ∧ (fun k => L'[k]?) = upd (upd (clearF (clearF (fun k => L[k]?) i) (i + 1)) i (.val v)) (i + 1) .second := by
  obtain ⟨L1, h1, h2, h3⟩ := clear_ok hW (show i < L.size by omega) v
  have hne : (fun k => L[k]?) i ≠ none := by simp; omega
  have hi1 : i < L1.size := by omega
  have hi2 : i + 1 < L1.size := by omega
  rw [clearF_self hne] at h3
  have hWc := wff_clear (f := fun k => L[k]?) hW i
  generalize hF : clearF (fun k => L[k]?) i = F at *
  have hFi : F i = some .unset := by rw [← hF]; exact clearF_at hne
  have g1 : (fun k => (L1.setIfInBounds i (.val v))[k]?) = upd F i (.val v) := by rw [gset _ hi1, ← upd_upd _ i .unset, h3]
  have g2 : (L1.setIfInBounds i (.val v))[i + 1]? = F (i + 1) := by
    have := congrFun g1 (i + 1); simpa [upd] using this
  have hFi1 : F (i + 1) ≠ none := by
    have : (L1.setIfInBounds i (.val v))[i + 1]? ≠ none := by simp; omega
    rw [g2] at this; exact this
  have hns : F (i + 1) ≠ some .second := fun q => by
    obtain ⟨w, hw, -⟩ := hWc.2.1 i q
    rw [hFi] at hw; cases hw
  have key : ∀ G : Nat → Option Slot, WFf G → G i = some .unset → G (i + 1) = some .unset → G = clearF F (i + 1) → WFf (upd (upd (clearF F (i + 1)) i (.val v)) (i + 1) .second) := fun G hG a b e => by rw [← e]; exact wff_two hG a b hv
  have hcl := wff_clear hWc (i + 1)
  have hcli : clearF F (i + 1) i = some .unset := by
    rcases clearF_cases F (i + 1) with ⟨q, h2⟩ | ⟨old, q, hc, h2⟩ | ⟨old, q, hc, h2⟩ | ⟨-, h2⟩
    · exact absurd q hns
    · rw [h2]; simp [upd, hFi]
    · rw [h2]; simp [upd, hFi]
    · rw [h2]; exact hFi
  have hWF := wff_two hcl hcli (clearF_at hFi1) hv
  rw [h1, ss_eq, sa_eq hi1, Option.bind_some, if_pos hv, g2]
  cases hx : F (i + 1) with
  | none => exact absurd hx hFi1
  | some sl =>
    cases sl with
    | second => exact absurd hx hns
    | unset =>
      have e1 : clearF F (i + 1) = F := by simp only [clearF, hx]
      have e3 : (fun k => ((L1.setIfInBounds i (.val v)).setIfInBounds (i + 1) .second)[k]?) = upd (upd (clearF F (i + 1)) i (.val v)) (i + 1) .second := by
        rw [gset _ (by simpa using hi2), g1, e1]
      refine ⟨(L1.setIfInBounds i (.val v)).setIfInBounds (i + 1) .second, ?_, by simp [h2], ?_, e3⟩
      · show setAt _ (i + 1) .second = _
        rw [sa_eq (by simpa using hi2)]
      · have w : WFf (fun k => ((L1.setIfInBounds i (.val v)).setIfInBounds (i + 1) .second)[k]?) := by rw [e3]; exact hWF
        exact w
    | val old =>
      by_cases hc : old.category = 2
      · have q := hWc.1 _ _ hx hc
        have hi3 : i + 2 < L1.size := by
          have q2 : (L1.setIfInBounds i (.val v))[i + 2]? = some .second := by
            have := congrFun g1 (i + 2); simpa [upd, q] using this
          have := (Array.getElem?_eq_some_iff.mp q2).1
          simpa using this
        have e1 : clearF F (i + 1) = upd (upd F (i + 2) .unset) (i + 1) .unset := by simp only [clearF, hx, hc, if_true]
        have e3 : (fun k => (((L1.setIfInBounds i (.val v)).setIfInBounds (i + 2) .unset).setIfInBounds (i + 1) .second)[k]?) = upd (upd (clearF F (i + 1)) i (.val v)) (i + 1) .second := by
          rw [gset _ (by simpa using hi2), gset _ (by simpa using hi3), g1, e1]
          funext k; simp only [upd]
          by_cases a : k = i + 1
          · simp [a]
          · by_cases b : k = i
            · simp [b]
            · simp [a, b]
        refine ⟨((L1.setIfInBounds i (.val v)).setIfInBounds (i + 2) .unset).setIfInBounds (i + 1) .second, ?_, by simp [h2], ?_, e3⟩
        · show (if old.category = 2 then _ else _) = _
          rw [if_pos hc, sa_eq (by simpa using hi3), Option.bind_some, sa_eq (by simpa using hi2)]
        · have w : WFf (fun k => (((L1.setIfInBounds i (.val v)).setIfInBounds (i + 2) .unset).setIfInBounds (i + 1) .second)[k]?) := by rw [e3]; exact hWF
          exact w
      · have e1 : clearF F (i + 1) = upd F (i + 1) .unset := by simp only [clearF, hx, hc, if_false]
        have e3 : (fun k => ((L1.setIfInBounds i (.val v)).setIfInBounds (i + 1) .second)[k]?) = upd (upd (clearF F (i + 1)) i (.val v)) (i + 1) .second := by
          rw [gset _ (by simpa using hi2), g1, e1]
          funext k; simp only [upd]
          by_cases a : k = i + 1
          · simp [a]
          · by_cases b : k = i
            · simp [b]
            · simp [a, b]
        refine ⟨(L1.setIfInBounds i (.val v)).setIfInBounds (i + 1) .second, ?_, by simp [h2], ?_, e3⟩
        · show (if old.category = 2 then _ else _) = _
          rw [if_neg hc, sa_eq (by simpa using hi2)]
        · have w : WFf (fun k => ((L1.setIfInBounds i (.val v)).setIfInBounds (i + 1) .second)[k]?) := by rw [e3]; exact hWF
          exact w
theorem cat_va (ρ : Nat → Nat) (v : Value) : (va ρ v).category = v.category := by cases v <;> rfl
theorem clr_len (ls : Lv) (i : Nat) : (clr ls i).length = ls.length := by
  cases i with
  | zero => rfl
  | succ j => simp only [clr]; split <;> simp
theorem clr_get {ls : Lv} {i k : Nat} {v : Value} (h : (clr ls i)[k]? = some (some v)) : ls[k]? = some (some v) ∧ (k + 1 = i → v.category ≠ 2) := by
  cases i with
  | zero => exact ⟨h, fun q => by omega⟩
  | succ j =>
    simp only [clr] at h
    split at h
    · rename_i x e
      rw [List.getElem?_set] at h
      split at h
      · rename_i hj; subst hj; split at h <;> simp at h
      · rename_i hj; exact ⟨h, fun q => by omega⟩
    · rename_i x e
      rw [List.getElem?_set] at h
      split at h
      · rename_i hj; subst hj; split at h <;> simp at h
      · rename_i hj; exact ⟨h, fun q => by omega⟩
    · rename_i e1 e2
      refine ⟨h, fun q hc => ?_⟩
      have hk : k = j := by omega
      subst hk
      cases v <;> first | exact e1 _ h | exact e2 _ h | (exact Nat.noConfusion (Nat.succ.inj hc))
theorem store_ok {ρ : Nat → Nat} {ls ls' : Lv} {L : Array Slot} {i : Nat} {v : Value} (hL : LR ρ ls L) (hd : ∀ x, v ≠ .double x) (h : stl ls i v = some ls') : ∃ L', storeLocals L i (va ρ v) = some L' ∧ LR ρ ls' L' ∧ L'.size = L.size := by
  obtain ⟨hz, hr, hW⟩ := hL
  have hWf : WFf (fun k => L[k]?) := hW
  by_cases hc : v.category = 2
  · obtain ⟨x, rfl⟩ : ∃ x, v = .long x := by cases v <;> simp [Value.category] at hc <;> first | exact ⟨_, rfl⟩ | exact absurd rfl (hd _)
    simp only [stl] at h
    split at h
    · rename_i hi
      cases h
      obtain ⟨L', a1, a2, a3, a4⟩ := store_two hW (show i + 1 < L.size by omega) (v := va ρ (.long x)) rfl
      refine ⟨L', a1, ⟨by simp [a2, hz, clr_len], fun k w hk => ?_, a3⟩, a2⟩
      have q : L'[k]? = _ := congrFun a4 k
      rw [q]
      rw [List.getElem?_set] at hk
      split at hk
      · simp at hk
      · rename_i hk1
        rw [List.getElem?_set] at hk
        split at hk
        · rename_i hk2; subst hk2
          simp only [clr_len] at hk
          split at hk
          · cases hk; simp [upd]
          · simp at hk
        · rename_i hk2
          obtain ⟨b1, b2⟩ := clr_get hk
          have b3 := hr _ _ b1
          have b4 : clearF (fun k => L[k]?) i k = some (.val (va ρ w)) := clearF_keep hWf (fun q => hk2 q.symm) b3 (fun q => by rw [cat_va]; exact b2 q)
          have b5 := clearF_keep (wff_clear hWf i) (i := i + 1) (fun q => hk1 q.symm) b4 (fun q => absurd (Nat.succ.inj q) fun z => hk2 z.symm)
          simp only [upd, show ¬ k = i + 1 from fun q => hk1 q.symm, show ¬ k = i from fun q => hk2 q.symm, if_false]
          exact b5
    · cases h
  · have hs : stl ls i v = if i < ls.length then some ((clr ls i).set i (some v)) else none := by cases v <;> first | rfl | exact absurd rfl hc
    rw [hs] at h
    split at h
    · rename_i hi
      cases h
      obtain ⟨L', a1, a2, a3, a4⟩ := store_one hW (show i < L.size by omega) (v := va ρ v) (by rw [cat_va]; exact hc)
      refine ⟨L', a1, ⟨by simp [a2, hz, clr_len], fun k w hk => ?_, a3⟩, a2⟩
      have q : L'[k]? = _ := congrFun a4 k
      rw [q]
      rw [List.getElem?_set] at hk
      split at hk
      · rename_i hk2; subst hk2
        simp only [clr_len] at hk
        split at hk
        · cases hk; simp [upd]
        · omega
      · rename_i hk2
        obtain ⟨b1, b2⟩ := clr_get hk
        have b3 := hr _ _ b1
        have b4 : clearF (fun k => L[k]?) i k = some (.val (va ρ w)) := clearF_keep hWf (fun q => hk2 q.symm) b3 (fun q => by rw [cat_va]; exact b2 q)
        simp only [upd, show ¬ k = i from fun q => hk2 q.symm, if_false]
        exact b4
    · cases h
end Jvm.LM

namespace Jvm.LM
open Sem ClassFile Op Lib Jvm.Stand Jvm.Free Jvm.LawKit Jvm.RoadKit
section Pure
variable {p : Program} {l : Launch} {e : Env} {R : Room} {s : State} {m : MethodId} {args : Array Value} {below : List Frame} {meth : Method} {c : Code} {T : State} {locs : List Loc} {cells slots : Nat}
theorem br_eq (cd : ClassFile.Cond) (x y : Int32) (a b : Nat) : br cd x y a b = if if_icmp.holds cd x y = true then a else b := by
  cases cd <;> simp only [br]
  · by_cases h : x = y <;> simp [h, XT.ii_eq_t, XT.ii_eq_f]
  · by_cases h : x = y
    · rw [if_pos h, XT.ii_ne_f h]; rfl
    · rw [if_neg h, XT.ii_ne_t h]; rfl
  · by_cases h : x < y
    · rw [if_pos h, XT.ii_lt_t h]; rfl
    · rw [if_neg h, XT.ii_lt_f h]; rfl
  · by_cases h : x < y
    · rw [if_pos h, XT.ii_ge_f h]; rfl
    · rw [if_neg h, XT.ii_ge_t h]; rfl
  · by_cases h : y < x
    · rw [if_pos h, XT.ii_gt_t h]; rfl
    · rw [if_neg h, XT.ii_gt_f h]; rfl
  · by_cases h : y < x
    · rw [if_pos h, XT.ii_le_f h]; rfl
    · rw [if_neg h, XT.ii_le_t h]; rfl
theorem qstep_sound (X : Stand p l e R s m args below meth c T locs cells slots) (hx : p.tables.exec = Jvm.exec) {ρ : Nat → Nat} {i : Instr} {n pc pc' : Nat} {st st' : List Value}
    (h : qstep i pc st = some (pc', st')) (hd : decode c.code pc = .ok (i, n)) (hn : isSw i = true ∨ n = ilen i) {L : Array Slot} :
    ∀ target, Steps p.tables e below (T.setTop (mkF m pc' L (st'.map (va ρ)))) target → Steps p.tables e below (T.setTop (mkF m pc L (st.map (va ρ)))) target := by
  by_cases hsw : isSw i = true
  · cases i <;> first | exact absurd hsw Bool.false_ne_true | skip
    rename_i d lo hi offs
    simp only [qstep] at h
    split at h
    · rename_i x r
      split at h
      · rename_i e1
        split at h
        · rename_i e2; cases h; exact fun t q => X.tableswitchOut hx (g := mkF m pc L (.int x :: List.map (va ρ) _)) rfl rfl hd e1 e2 t q
        · cases h
      · rename_i e1
        split at h
        · rename_i o e2
          split at h
          · rename_i e3; cases h; exact fun t q => X.tableswitchIn hx (g := mkF m pc L (.int x :: List.map (va ρ) _)) rfl rfl hd e1 e2 e3 t q
          · cases h
        · cases h
    · cases h
  obtain rfl := hn.resolve_left hsw
  unfold qstep at h
  split at h
  -- constants
  · cases h; exact fun t q => XS.iconst X.here hx rfl hd q
  · cases h; exact fun t q => XS.bipush X.here hx rfl hd q
  · cases h; exact fun t q => XS.sipush X.here hx rfl hd q
  · cases h; exact fun t q => XT.lconst X.here hx rfl hd q
  -- ints
  · split at h
    · cases h; exact fun t q => XS.iadd X.here hx rfl hd rfl q
    · cases h
  · split at h
    · cases h; exact fun t q => XS.isub X.here hx rfl hd rfl q
    · cases h
  · split at h
    · cases h; exact fun t q => XS.imul X.here hx rfl hd rfl q
    · cases h
  · split at h
    · cases h; exact fun t q => XS.iand X.here hx rfl hd rfl q
    · cases h
  · split at h
    · cases h; exact fun t q => XT.ior X.here hx rfl hd rfl q
    · cases h
  · split at h
    · cases h; exact fun t q => XT.ixor X.here hx rfl hd rfl q
    · cases h
  · split at h
    · cases h; exact fun t q => XT.ishl X.here hx rfl hd rfl q
    · cases h
  · split at h
    · cases h; exact fun t q => XT.ishr X.here hx rfl hd rfl q
    · cases h
  · split at h
    · cases h; exact fun t q => XT.iushr X.here hx rfl hd rfl q
    · cases h
  · split at h
    · split at h
      · cases h
      · rename_i e1; cases h; exact fun t q => XS.idiv X.here hx rfl hd rfl e1 q
    · cases h
  · split at h
    · split at h
      · cases h
      · rename_i e1; cases h; exact fun t q => iremM X hx rfl hd rfl e1 q
    · cases h
  · split at h
    · cases h; exact fun t q => XS.ineg X.here hx rfl hd rfl q
    · cases h
  -- longs
  · split at h
    · cases h; exact fun t q => XT.ladd X.here hx rfl hd rfl q
    · cases h
  · split at h
    · cases h; exact fun t q => XT.lsub X.here hx rfl hd rfl q
    · cases h
  · split at h
    · cases h; exact fun t q => XT.lmul X.here hx rfl hd rfl q
    · cases h
  · split at h
    · cases h; exact fun t q => XT.land X.here hx rfl hd rfl q
    · cases h
  · split at h
    · cases h; exact fun t q => XT.lor X.here hx rfl hd rfl q
    · cases h
  · split at h
    · cases h; exact fun t q => XT.lxor X.here hx rfl hd rfl q
    · cases h
  · split at h
    · cases h; exact fun t q => XT.lshl X.here hx rfl hd rfl q
    · cases h
  · split at h
    · cases h; exact fun t q => XT.lshr X.here hx rfl hd rfl q
    · cases h
  · split at h
    · cases h; exact fun t q => XT.lushr X.here hx rfl hd rfl q
    · cases h
  · split at h
    · split at h
      · cases h
      · rename_i e1; cases h; exact fun t q => XT.ldiv X.here hx rfl hd rfl e1 q
    · cases h
  · split at h
    · cases h; exact fun t q => XT.lneg X.here hx rfl hd rfl q
    · cases h
  · split at h
    · cases h; exact fun t q => XT.lcmp X.here hx rfl hd rfl q
    · cases h
  · split at h
    · cases h; exact fun t q => XT.i2l X.here hx rfl hd rfl q
    · cases h
  · split at h
    · cases h; exact fun t q => XT.l2i X.here hx rfl hd rfl q
    · cases h
  -- dup, pop
  · split at h
    · cases h; exact fun t q => XS.dup X.here hx rfl hd rfl rfl q
    · cases h; exact fun t q => XS.dup X.here hx rfl hd rfl rfl q
    · cases h
  · split at h
    · cases h; exact fun t q => XT.pop X.here hx rfl hd rfl rfl q
    · cases h; exact fun t q => XT.pop X.here hx rfl hd rfl rfl q
    · cases h
  -- jumps
  · split at h
    · rename_i e1; cases h; exact fun t q => XS.goto X.here hx rfl rfl hd e1 rfl q
    · cases h
  · split at h
    · split at h
      · rename_i e1; cases h
        intro t q
        rw [br_eq] at q
        split at q
        · rename_i e2; exact XS.ifYes X.here hx rfl rfl hd rfl (by rw [if0]; exact e2) e1 rfl q
        · rename_i e2; exact XS.ifNo X.here hx rfl hd rfl (by rw [if0]; simpa using e2) q
      · cases h
    · cases h
  · split at h
    · split at h
      · rename_i e1; cases h
        intro t q
        rw [br_eq] at q
        split at q
        · rename_i e2; exact XS.icmpYes X.here hx rfl rfl hd rfl e2 e1 rfl q
        · rename_i e2; exact XS.icmpNo X.here hx rfl hd rfl (by simpa using e2) q
      · cases h
    · cases h
  · exact absurd rfl hsw
  · cases h
theorem pstep_sound (X : Stand p l e R s m args below meth c T locs cells slots) (hx : p.tables.exec = Jvm.exec) {ρ : Nat → Nat} {i : Instr} {n pc pc' : Nat} {ls ls' : Lv} {st st' : List Value}
    (h : pstep i pc ls st = some (pc', ls', st')) (hd : decode c.code pc = .ok (i, n)) (hn : isSw i = true ∨ n = ilen i) {L : Array Slot} (hL : LR ρ ls L) :
    ∃ L', LR ρ ls' L' ∧ L'.size = L.size ∧ ∀ target, Steps p.tables e below (T.setTop (mkF m pc' L' (st'.map (va ρ)))) target → Steps p.tables e below (T.setTop (mkF m pc L (st.map (va ρ)))) target := by
  by_cases hsw : isSw i = true
  · cases i <;> first | exact absurd hsw Bool.false_ne_true | skip
    simp only [pstep] at h
    split at h
    · rename_i e1; cases h; exact ⟨L, hL, rfl, qstep_sound X hx e1 hd hn⟩
    · cases h
  obtain rfl := hn.resolve_left hsw
  unfold pstep at h
  split at h
  -- loads
  · split at h
    · rename_i e1; cases h; exact ⟨L, hL, rfl, fun t q => XS.iloadN X.here hx rfl hd (hL.2.1 _ _ e1) q⟩
    · cases h
  · split at h
    · rename_i e1; cases h; exact ⟨L, hL, rfl, fun t q => XS.iload X.here hx rfl hd (hL.2.1 _ _ e1) q⟩
    · cases h
  · split at h
    · rename_i e1; cases h; exact ⟨L, hL, rfl, fun t q => XT.lloadN X.here hx rfl hd (hL.2.1 _ _ e1) q⟩
    · cases h
  · split at h
    · rename_i e1; cases h; exact ⟨L, hL, rfl, fun t q => XT.lload X.here hx rfl hd (hL.2.1 _ _ e1) q⟩
    · cases h
  · split at h
    · rename_i e1; cases h; exact ⟨L, hL, rfl, fun t q => XS.aloadN X.here hx rfl hd (hL.2.1 _ _ e1) rfl q⟩
    · cases h
  · split at h
    · rename_i e1; cases h; exact ⟨L, hL, rfl, fun t q => XS.aload X.here hx rfl hd (hL.2.1 _ _ e1) rfl q⟩
    · cases h
  -- stores
  · split at h
    · split at h
      · rename_i e1; cases h
        obtain ⟨L', a1, a2, a3⟩ := store_ok hL (fun x => by simp) e1
        exact ⟨L', a2, a3, fun t q => XS.istoreN X.here hx rfl hd rfl a1 q⟩
      · cases h
    · cases h
  · split at h
    · split at h
      · rename_i e1; cases h
        obtain ⟨L', a1, a2, a3⟩ := store_ok hL (fun x => by simp) e1
        exact ⟨L', a2, a3, fun t q => XS.istore X.here hx rfl hd rfl a1 q⟩
      · cases h
    · cases h
  · split at h
    · split at h
      · rename_i e1; cases h
        obtain ⟨L', a1, a2, a3⟩ := store_ok hL (fun x => by simp) e1
        exact ⟨L', a2, a3, fun t q => XT.lstoreN X.here hx rfl hd rfl a1 q⟩
      · cases h
    · cases h
  · split at h
    · split at h
      · rename_i e1; cases h
        obtain ⟨L', a1, a2, a3⟩ := store_ok hL (fun x => by simp) e1
        exact ⟨L', a2, a3, fun t q => XT.lstore X.here hx rfl hd rfl a1 q⟩
      · cases h
    · cases h
  · split at h
    · split at h
      · rename_i e1; cases h
        obtain ⟨L', a1, a2, a3⟩ := store_ok hL (fun x => by simp) e1
        exact ⟨L', a2, a3, fun t q => XS.astoreN X.here hx rfl hd rfl rfl a1 q⟩
      · cases h
    · cases h
  · split at h
    · split at h
      · rename_i e1; cases h
        obtain ⟨L', a1, a2, a3⟩ := store_ok hL (fun x => by simp) e1
        exact ⟨L', a2, a3, fun t q => XS.astore X.here hx rfl hd rfl rfl a1 q⟩
      · cases h
    · cases h
  · split at h
    · rename_i e0
      split at h
      · rename_i e1; cases h
        obtain ⟨L', a1, a2, a3⟩ := store_ok hL (fun x => by simp) e1
        exact ⟨L', a2, a3, fun t q => XS.iinc X.here hx rfl hd (hL.2.1 _ _ e0) a1 q⟩
      · cases h
    · cases h
  · rename_i hq
    split at h
    · rename_i e1; cases h; exact ⟨L, hL, rfl, qstep_sound X hx e1 hd hn⟩
    · cases h
end Pure
/-! the class's own machine -/
def nd : List Value → Bool
  | [] => true
  | .double _ :: _ => false
  | _ :: r => nd r
theorem nd_spec {as : List Value} (h : nd as = true) : ∀ v ∈ as, ∀ x, v ≠ .double x := by
  induction as with
  | nil => intro v hv; cases hv
  | cons w r ih =>
    intro v hv x e
    rcases List.mem_cons.mp hv with q | q
    · subst q; subst e; cases h
    · refine ih ?_ v q x e
      cases w <;> first | exact h | cases h
def layA : List Value → Lv
  | [] => []
  | .long x :: r => some (.long x) :: none :: layA r
  | v :: r => some v :: layA r
def lay (as : List Value) (n : Nat) : Lv := layA as ++ List.replicate (n - (layA as).length) none
def cats (st : List Value) : Nat := (st.map fun v => v.category).sum
def tyOf : Nat → FieldType
  | 0 => .int
  | 1 => .boolean
  | _ => .long
def atOf : Nat → ArrayType
  | 0 => .int
  | 1 => .boolean
  | _ => .long
def retOf : Nat → Option FieldType
  | 0 => none
  | 1 => some .int
  | 2 => some .boolean
  | _ => some .long
def zs (al : List (Nat × Nat)) (c : Nat) : Nat := ((al.take c).map (·.2)).sum
abbrev Rs := Option (Option Value × St)
def cret (me : Me) (st : List Value) (i : Instr) : Option (Option Value) :=
  match i with
  | .ireturn => match st with
    | [.int x] => if me.rt = 1 then some (some (.int x)) else if me.rt = 2 then some (some (.int (x &&& 1))) else none
    | _ => none
  | .lreturn => match st with
    | [.long x] => if me.rt = 3 then some (some (.long x)) else none
    | _ => none
  | .return_ => match st with
    | [] => if me.rt = 0 then some none else none
    | _ => none
  | _ => none
def isRet : Instr → Bool
  | .ireturn => true
  | .lreturn => true
  | .return_ => true
  | _ => false
def gfld (P : Cl) (x : Nat) (c : Nat) (s : St) : Option Value :=
  match asc P.fx x with
  | none => none
  | some k => match asc P.fs k with
    | none => none
    | some fe => match fe.2.2.1 with
      | 0 => some (.int (gI s 0 k))
      | 1 => some (.int (gI s 0 k))
      | 2 => some (.long (gL s 0 k))
      | j + 3 => if j < c then some (.ref (j + 1)) else none
def pfld (P : Cl) (x : Nat) (ini : Bool) (v : Value) (s : St) : Option St :=
  match asc P.fx x with
  | none => none
  | some k => match asc P.fs k with
    | none => none
    | some fe => if fe.2.2.2 = true ∧ ini = false then none else
      match fe.2.2.1, v with
      | 0, .int z => some (sI s 0 k z)
      | 1, .int z => some (sI s 0 k (z &&& 1))
      | 2, .long z => some (sL s 0 k z)
      | _, _ => none
def newF (P : Cl) (t : ArrayType) (cd : Cd) (pc c : Nat) (st : List Value) : Bool :=
  match st with
  | [.int n, .ref 0] => match fetch cd (pc + 2) with
    | some (.putfield x, 3) => match asc P.fx x with
      | some k => match asc P.fs k with
        | some fe => match P.al[c]? with
          | some (tt, N) => decide (fe.2.2.1 = c + 3 ∧ t = atOf tt ∧ 0 ≤ n.toInt ∧ n.toInt = N ∧ N < 1000000)
          | none => false
        | none => false
      | none => false
    | _ => false
  | _ => false
def lda (P : Cl) (tt c : Nat) (st : List Value) (s : St) : Option (List Value) :=
  match st with
  | .int i :: .ref (a + 1) :: r => match P.al[a]? with
    | some (t2, N) => if t2 = tt ∧ a < c then (if inb N i then some ((if tt = 2 then .long (gL s (a + 1) (ix i)) else .int (gI s (a + 1) (ix i))) :: r) else none) else none
    | none => none
  | _ => none
def sta (P : Cl) (tt c : Nat) (st : List Value) (s : St) : Option (List Value × St) :=
  match st with
  | v :: .int i :: .ref (a + 1) :: r => match P.al[a]? with
    | some (t2, N) => if t2 = tt ∧ a < c then (if inb N i then (match tt, v with
        | 0, .int z => some (r, sI s (a + 1) (ix i) z)
        | 1, .int z => some (r, sI s (a + 1) (ix i) (z &&& 1))
        | 2, .long z => some (r, sL s (a + 1) (ix i) z)
        | _, _ => none) else none) else none
    | none => none
  | _ => none
def cstep {α : Type} (P : Cl) (mi : Nat) (me : Me) (rt : Option Value → St → Option α) (cl : Nat → Nat → List Value → St → Rs) (k : Nat → Nat → Lv → List Value → St → Option α) (i : Instr) (c pc : Nat) (ls : Lv) (st : List Value) (s : St) : Option α :=
  match i with
  | .getfield x => match st with
    | .ref 0 :: r => (match gfld P x c s with | some v => k c (pc + 3) ls (v :: r) s | none => none)
    | _ => none
  | .putfield x => match st with
    | v :: .ref 0 :: r => (match pfld P x (mi == 0) v s with | some s' => k c (pc + 3) ls r s' | none => none)
    | _ => none
  | .iaload => match lda P 0 c st s with | some st' => k c (pc + 1) ls st' s | none => none
  | .baload => match lda P 1 c st s with | some st' => k c (pc + 1) ls st' s | none => none
  | .laload => match lda P 2 c st s with | some st' => k c (pc + 1) ls st' s | none => none
  | .iastore => match sta P 0 c st s with | some (st', s') => k c (pc + 1) ls st' s' | none => none
  | .bastore => match sta P 1 c st s with | some (st', s') => k c (pc + 1) ls st' s' | none => none
  | .lastore => match sta P 2 c st s with | some (st', s') => k c (pc + 1) ls st' s' | none => none
  | .newarray t => if mi = 0 ∧ newF P t me.cd pc c st = true then k (c + 1) (pc + 5) ls [] s else none
  | .ldc x => match asc P.kx x with | some (.int z) => k c (pc + 2) ls (.int z :: st) s | _ => none
  | .ldc2_w x => match asc P.kx x with | some (.long z) => k c (pc + 3) ls (.long z :: st) s | _ => none
  | .invokespecial x => match st with
    | .ref 0 :: r => if x = P.oi ∧ 1 ≤ me.rf ∧ cats r + 12 ≤ me.rl then k c (pc + 3) ls r s else none
    | _ => none
  | .invokevirtual x => match asc P.mx x with
    | none => none
    | some m' => match asc P.ms m' with
      | none => none
      | some me' => match st.drop me'.na with
        | .ref 0 :: r => if m' ≠ 0 ∧ me'.rf + 1 ≤ me.rf ∧ cats r + (me'.ml + 11) + me'.rl ≤ me.rl ∧ nd (st.take me'.na) = true then
            (match cl m' c (.ref 0 :: (st.take me'.na).reverse) s with
             | some (none, s') => k c (pc + 3) ls r s'
             | some (some v, s') => k c (pc + 3) ls (v :: r) s'
             | none => none) else none
        | _ => none
  | i => if isRet i = true then (if mi = 0 ∧ c ≠ P.al.length then none else match cret me st i with | some v => rt v s | none => none)
    else match pstep i pc ls st with | some (pc', ls', st') => k c pc' ls' st' s | none => none
def cexec (P : Cl) : Nat → Nat → Me → Nat → Nat → Lv → List Value → St → Rs
  | 0, _, _, _, _, _, _, _ => none
  | f + 1, mi, me, c, pc, ls, st, s => match fetch me.cd pc with
    | none => none
    | some (i, _) => cstep P mi me (fun v s => some (v, s)) (fun m' c as s => match asc P.ms m' with | some me' => (if (layA as).length ≤ me'.ml then cexec P f m' me' c 0 (lay as me'.ml) [] s else none) | none => none) (cexec P f mi me) i c pc ls st s
def ccall (P : Cl) (f m' c : Nat) (as : List Value) (s : St) : Rs := match asc P.ms m' with | some me' => (if (layA as).length ≤ me'.ml then cexec P f m' me' c 0 (lay as me'.ml) [] s else none) | none => none
end Jvm.LM

namespace Jvm.LM
open Sem ClassFile Op Lib Jvm.Stand Jvm.Free Jvm.LawKit Jvm.RoadKit
/-! how the machine's state stands in the heap -/
theorem adr_ne (a j : Nat) : a + (j + 1) ≠ a := by omega
theorem adr_ne' (a j : Nat) : a ≠ a + (j + 1) := by omega
theorem adr_ne2 (a : Nat) {j k : Nat} (h : j ≠ k) : a + (j + 1) ≠ a + (k + 1) := by omega
def Fval (adr c : Nat) (s : St) (k : Nat) (fe : Fe) : Value :=
  match fe.2.2.1 with
  | 0 => .int (gI s 0 k)
  | 1 => .int (gI s 0 k)
  | 2 => .long (gL s 0 k)
  | j + 3 => if j < c then .ref (adr + (j + 1)) else .null
def elv (tt : Nat) (s : St) (j i : Nat) : Value := if tt = 2 then .long (gL s j i) else .int (gI s j i)
def ARep (Z : State) (h : Heap) (a tt N : Nat) (s : St) (j : Nat) : Prop :=
  ∃ cl : Cell, Arr Z h a cl (tyOf tt) ∧ cl.slots.size = N ∧ ∀ i, i < N → cl.slots[i]? = some (elv tt s j i)
def HRep (P : Cl) (Z : State) (h : Heap) (adr c : Nat) (s : St) : Prop :=
  Exa Z h adr P.nm ∧ (∀ k fe, asc P.fs k = some fe → Fld Z h adr P.nm fe.1 fe.2.1 (Fval adr c s k fe)) ∧
  (∀ (j tt N : Nat), P.al[j]? = some (tt, N) → j < c → ARep Z h (adr + (j + 1)) tt N s (j + 1)) ∧
  (∀ j i, c < j → gI s j i = 0 ∧ gL s j i = 0) ∧ c ≤ P.al.length
def fkTy (P : Cl) : Nat → FieldType
  | 0 => .int
  | 1 => .boolean
  | 2 => .long
  | j + 3 => .array (tyOf ((P.al[j]?.map (·.1)).getD 0))
def yOf (P : Cl) (me : Me) : MethodName := ⟨P.nm, me.nm, me.ds⟩
def LinkC (P : Cl) (Z : State) (a0 : Array Value) : Prop :=
  ((∃ nF, (Cond.instantiable P.nm nF).before a0 Z = true) ∧ (Cond.initialized P.nm).before a0 Z = true) ∧
  (∀ x k, asc P.fx x = some k → ∀ fe, asc P.fs k = some fe → (Cond.fieldLink P.nm x P.nm fe.1 fe.2.1).before a0 Z = true) ∧
  (∀ k fe, asc P.fs k = some fe → (if fe.2.2.2 = true then Cond.laysFinal P.nm P.nm fe.1 fe.2.1 else Cond.lays P.nm P.nm fe.1 fe.2.1).before a0 Z = true) ∧
  (∀ k fe, asc P.fs k = some fe → parseFieldDescriptor fe.2.1 = some (fkTy P fe.2.2.1)) ∧
  (∀ k k' fe fe', asc P.fs k = some fe → asc P.fs k' = some fe' → k ≠ k' → fe.1 ≠ fe'.1 ∧ (3 ≤ fe.2.2.1 → fe.2.2.1 ≠ fe'.2.2.1)) ∧
  (∀ (j tt N : Nat), P.al[j]? = some (tt, N) → tt ≤ 2 ∧ (Cond.arrayClass (tyOf tt)).before a0 Z = true) ∧
  (∀ x v, asc P.kx x = some v → match v with
    | .int z => (Cond.constant P.nm x z).before a0 Z = true
    | .long z => (Cond.constantLong P.nm x z).before a0 Z = true
    | _ => True) ∧
  ((Cond.methodLink P.nm P.oi Lib.objectInit).before a0 Z = true ∧ (Cond.instanceMethod Lib.objectInit).before a0 Z = true ∧ (Cond.code Lib.objectInit ⟨#[0xb1]⟩ 1 none).before a0 Z = true) ∧
  (∀ mi me, asc P.ms mi = some me → ∃ (bytes : ByteArray) (ps : List FieldType), (Cond.code (yOf P me) bytes me.ml (retOf me.rt)).before a0 Z = true ∧
    (∀ pc i n, fetch me.cd pc = some (i, n) → decode bytes pc = .ok (i, n) ∧ (isSw i = true ∨ n = ilen i)) ∧ parseMethodDescriptor me.ds = some ⟨ps, retOf me.rt⟩ ∧ ps.length = me.na) ∧
  (∀ x mi, asc P.mx x = some mi → ∀ me, asc P.ms mi = some me → (Cond.methodLink P.nm x (yOf P me)).before a0 Z = true ∧ (Cond.instanceMethod (yOf P me)).before a0 Z = true ∧
    ((Cond.privateMethod (yOf P me)).before a0 Z = true ∨ ((Cond.declares (yOf P me)).before a0 Z = true ∧ (Cond.selects P.nm (yOf P me) (yOf P me)).before a0 Z = true))) ∧
  plainName P.nm = true ∧ (P.nm ≠ "java/lang/invoke/MethodHandle" ∧ P.nm ≠ "java/lang/invoke/VarHandle") ∧ (∀ me, asc P.ms 0 = some me → me.nm = "<init>")
theorem gI_sI (s : St) (c j : Nat) (v : Int32) (a b : Nat) : gI (sI s c j v) a b = if a = c ∧ b = j then v else gI s a b := rfl
theorem gL_sI (s : St) (c j : Nat) (v : Int32) (a b : Nat) : gL (sI s c j v) a b = gL s a b := rfl
theorem gI_sL (s : St) (c j : Nat) (v : Int64) (a b : Nat) : gI (sL s c j v) a b = gI s a b := rfl
theorem gL_sL (s : St) (c j : Nat) (v : Int64) (a b : Nat) : gL (sL s c j v) a b = if a = c ∧ b = j then v else gL s a b := rfl
theorem laid_of {P : Cl} {Z : State} {a0 : Array Value} (LK : LinkC P Z a0) {k : Nat} {fe : Fe} (hk : asc P.fs k = some fe) : Laid Z a0 P.nm P.nm fe.1 fe.2.1 := by
  have q := LK.2.2.1 k fe hk
  split at q
  · exact Or.inr q
  · exact Or.inl q
/-- a heap that is alike where the object lies -/
theorem HRep.congr {P : Cl} {Z : State} {h h' : Heap} {adr c : Nat} {s : St} (H : HRep P Z h adr c s) (e : ∀ x, adr ≤ x → x < adr + 1 + P.al.length → h'[x]? = h[x]?) : HRep P Z h' adr c s := by
  obtain ⟨h1, h2, h3, h4, h5⟩ := H
  have ea : h'[adr]? = h[adr]? := e adr (Nat.le_refl _) (by omega)
  refine ⟨?_, fun k fe hk => ?_, fun j tt N hj hc => ?_, h4, h5⟩
  · obtain ⟨cell, k, q1, r⟩ := h1; exact ⟨cell, k, by rw [ea]; exact q1, r⟩
  · obtain ⟨cell, cf, k, i, f, q1, r⟩ := h2 k fe hk; exact ⟨cell, cf, k, i, f, by rw [ea]; exact q1, r⟩
  · obtain ⟨cl, ⟨q1, q2⟩, q3⟩ := h3 j tt N hj hc
    exact ⟨cl, ⟨by rw [e _ (by omega) (by omega)]; exact q1, q2⟩, q3⟩
theorem HRep.putFld {P : Cl} {Z : State} {a0 : Array Value} (LK : LinkC P Z a0) {h h' : Heap} {adr c k : Nat} {fe : Fe} {s s' : St} {v : Value} (H : HRep P Z h adr c s) (hk : asc P.fs k = some fe)
    (W : Wr h h' adr (RoadKit.slotOf Z P.nm fe.1 fe.2.1) v) (hv : v = Fval adr c s' k fe) (hI : ∀ a b, (a ≠ 0 ∨ b ≠ k) → gI s' a b = gI s a b ∧ gL s' a b = gL s a b) : HRep P Z h' adr c s' := by
  obtain ⟨h1, h2, h3, h4, h5⟩ := H
  refine ⟨h1.wr W, fun k2 fe2 hk2 => ?_, fun j tt N hj hc => ?_, fun j i hj => ?_, h5⟩
  · by_cases e : k2 = k
    · subst e; cases hk.symm.trans hk2
      rw [← hv]; exact (h2 _ _ hk).same W
    · have hne := (LK.2.2.2.2.1 _ _ _ _ hk2 hk e).1
      have q := (h2 _ _ hk2).other W (Or.inr (slot_ne (laid_of LK hk2) (laid_of LK hk) hne (LK.2.2.2.1 _ _ hk2) (LK.2.2.2.1 _ _ hk)))
      have e2 : Fval adr c s' k2 fe2 = Fval adr c s k2 fe2 := by
        have := hI 0 k2 (Or.inr e)
        simp only [Fval]; split <;> simp [this.1, this.2]
      rw [e2]; exact q
  · obtain ⟨cl, q1, q2, q3⟩ := h3 j tt N hj hc
    refine ⟨cl, q1.other W (adr_ne _ _), q2, fun i hi => ?_⟩
    have := hI (j + 1) i (Or.inl (by omega))
    rw [q3 i hi]; simp only [elv, this.1, this.2]
  · have := hI j i (Or.inl (by omega))
    rw [this.1, this.2]; exact h4 j i hj
theorem HRep.putArr {P : Cl} {Z : State} {h h' : Heap} {adr c a tt N n : Nat} {s s' : St} {v : Value} (H : HRep P Z h adr c s) (ha : P.al[a]? = some (tt, N)) (hac : a < c) (hn : n < N)
    (W : Wr h h' (adr + (a + 1)) n v) (hv : v = elv tt s' (a + 1) n) (hI : ∀ x y, (x ≠ a + 1 ∨ y ≠ n) → gI s' x y = gI s x y ∧ gL s' x y = gL s x y) : HRep P Z h' adr c s' := by
  obtain ⟨h1, h2, h3, h4, h5⟩ := H
  refine ⟨h1.wr W, fun k fe hk => ?_, fun j tt2 N2 hj hc => ?_, fun j i hj => ?_, h5⟩
  · have q := (h2 _ _ hk).other W (Or.inl (adr_ne' _ _))
    have e2 : Fval adr c s' k fe = Fval adr c s k fe := by
      have := hI 0 k (Or.inl (by omega))
      simp only [Fval]; split <;> simp [this.1, this.2]
    rw [e2]; exact q
  · obtain ⟨cl, q1, q2, q3⟩ := h3 j tt2 N2 hj hc
    by_cases e : j = a
    · subst e; cases ha.symm.trans hj
      refine ⟨cl.setSlot n v, q1.same W, by rw [sz_set]; exact q2, fun i hi => ?_⟩
      by_cases ei : i = n
      · subst ei; rw [← hv]; simp [Cell.setSlot, q2, hi]
      · have := hI (j + 1) i (Or.inr ei)
        have q4 := q3 i hi
        simp only [elv, this.1, this.2] at q4 ⊢
        simp only [Cell.setSlot]
        rw [Array.getElem?_setIfInBounds_ne (fun q => ei q.symm)]; exact q4
    · refine ⟨cl, q1.other W (adr_ne2 _ e), q2, fun i hi => ?_⟩
      have := hI (j + 1) i (Or.inl (by omega))
      rw [q3 i hi]; simp only [elv, this.1, this.2]
  · have := hI j i (Or.inl (by omega))
    rw [this.1, this.2]; exact h4 j i hj
theorem HRep.newArr {P : Cl} {Z : State} {a0 : Array Value} (LK : LinkC P Z a0) {h h1 h2 : Heap} {adr c k tt N : Nat} {fe : Fe} {s : St} {n : Int32} {cA : ClassId} (H : HRep P Z h adr c s) (hk : asc P.fs k = some fe) (hkd : fe.2.2.1 = c + 3)
    (ha : P.al[c]? = some (tt, N)) (hn0 : 0 ≤ n.toInt) (hn : n.toInt = N) (hsz : h.size = adr + 1 + c) (E : Ext h h1) (A : Arr Z h1 h.size (newA cA (tyOf tt) n) (tyOf tt)) (W : Wr h1 h2 adr (RoadKit.slotOf Z P.nm fe.1 fe.2.1) (.ref h.size)) : HRep P Z h2 adr (c + 1) s := by
  obtain ⟨g1, g2, g3, g4, g5⟩ := H
  have hc : c < P.al.length := (List.getElem?_eq_some_iff.mp ha).1
  have hNn : n.toNatClampNeg = N := by simp only [Int32.toNatClampNeg]; omega
  have htt := (LK.2.2.2.2.2.1 _ _ _ ha).1
  refine ⟨(g1.ext E).wr W, fun k2 fe2 hk2 => ?_, fun j tt2 N2 hj hjc => ?_, fun j i hj => g4 j i (by omega), hc⟩
  · by_cases e : k2 = k
    · subst e; cases hk.symm.trans hk2
      have q := ((g2 _ _ hk).ext E).same W
      have e2 : Fval adr (c + 1) s k2 fe = .ref h.size := by simp only [Fval, hkd]; rw [if_pos (Nat.lt_succ_self c), hsz]; exact congrArg Value.ref (show adr + (c + 1) = adr + 1 + c by omega)
      rw [e2]; exact q
    · have hne := LK.2.2.2.2.1 _ _ _ _ hk2 hk e
      have q := ((g2 _ _ hk2).ext E).other W (Or.inr (slot_ne (laid_of LK hk2) (laid_of LK hk) hne.1 (LK.2.2.2.1 _ _ hk2) (LK.2.2.2.1 _ _ hk)))
      have e2 : Fval adr (c + 1) s k2 fe2 = Fval adr c s k2 fe2 := by
        simp only [Fval]; split
        · rfl
        · rfl
        · rfl
        · rename_i j hj
          have : j ≠ c := fun q => (hne.2 (by rw [hj]; omega)) (by rw [hj, hkd, q])
          by_cases b : j < c
          · rw [if_pos b, if_pos (by omega)]
          · rw [if_neg b, if_neg (by omega)]
      rw [e2]; exact q
  · by_cases e : j = c
    · subst e; cases ha.symm.trans hj
      have hA : Arr Z h2 h.size (newA cA (tyOf tt) n) (tyOf tt) := A.other W (show h.size ≠ adr by omega)
      refine ⟨newA cA (tyOf tt) n, by rw [show adr + (j + 1) = h.size by omega]; exact hA, by rw [sz_new]; exact hNn, fun i hi => ?_⟩
      have z := g4 (j + 1) i (by omega)
      simp only [newA, hNn, elv, z.1, z.2]
      rw [Array.getElem?_replicate, if_pos hi]
      have : tt = 0 ∨ tt = 1 ∨ tt = 2 := by omega
      rcases this with rfl | rfl | rfl <;> rfl
    · obtain ⟨cl, q1, q2, q3⟩ := g3 j tt2 N2 hj (by omega)
      exact ⟨cl, (q1.ext E).other W (adr_ne _ _), q2, q3⟩
/-- outside the object nothing moves -/
def Kp (h0 h : Heap) (adr n : Nat) : Prop := ∀ x, (x < adr ∨ adr + 1 + n ≤ x) → h[x]? = h0[x]?
theorem Kp.wr {h0 h h' : Heap} {adr n a sl : Nat} {v : Value} (K : Kp h0 h adr n) (W : Wr h h' a sl v) (h1 : adr ≤ a) (h2 : a < adr + 1 + n) : Kp h0 h' adr n := fun x hx => by
  obtain ⟨cell, q1, q2, q3, rfl⟩ := W
  rw [Array.getElem?_setIfInBounds_ne (by omega)]; exact K x hx
theorem Kp.ext {h0 h h' : Heap} {adr n : Nat} (K : Kp h0 h adr n) (E : Ext h h') (h1 : h'.size ≤ adr + 1 + n) (h2 : adr ≤ h.size) : Kp h0 h' adr n := fun x hx => by
  rw [← K x hx]
  by_cases b : x < h.size
  · obtain ⟨c, hc⟩ : ∃ c, h[x]? = some c := ⟨h[x], Array.getElem?_eq_getElem b⟩
    rw [hc]; exact E.2 _ _ hc
  · rw [Array.getElem?_eq_none (by omega), Array.getElem?_eq_none (by omega)]
theorem Kp.trans {h0 h h' : Heap} {adr n : Nat} (K : Kp h0 h adr n) (K' : Kp h h' adr n) : Kp h0 h' adr n := fun x hx => (K' x hx).trans (K x hx)
def cRoom (P : Cl) (mi : Nat) (me : Me) : Room := { frames := me.rf, cells := if mi = 0 then P.al.length else 0, slots := if mi = 0 then zs P.al P.al.length else 0, locals := me.rl }
def QC (P : Cl) (Z : State) (n0 adr mi c : Nat) (w : Option Value) (s' : St) (h0 : Heap) (v : Option Value) (h : Heap) (L : List Loc) : Prop :=
  (v = w ∧ ∀ ρ, v.toList.map (va ρ) = v.toList) ∧ Fr n0 L ∧ HRep P Z h adr (if mi = 0 then P.al.length else c) s' ∧ Kp h0 h adr P.al.length ∧ h.size = (if mi = 0 then adr + 1 + P.al.length else h0.size)
/-- the run from S ends, and so -/
def Don (p : Program) (e : Env) (below : List Frame) (s₀ : State) (rm : Room) (Q : Option Value → Heap → List Loc → Prop) (S : State) : Prop :=
  ∃ s₂ o, Steps p.tables e below S s₂ ∧ s₂.status = .running ∧ Ended s₂ below o ∧ ∃ v L, o = .returned v ∧ Q v s₂.heap L ∧ FrameEnd s₀ o s₂ L rm.cells rm.slots
theorem Don.step {p : Program} {e : Env} {below : List Frame} {s₀ : State} {rm : Room} {Q : Option Value → Heap → List Loc → Prop} {S S' : State} (h : ∀ t, Steps p.tables e below S' t → Steps p.tables e below S t) (D : Don p e below s₀ rm Q S') : Don p e below s₀ rm Q S := by
  obtain ⟨s₂, o, h1, h2⟩ := D; exact ⟨s₂, o, h _ h1, h2⟩
def Inv (P : Cl) (Z : State) (n0 adr mi c : Nat) (s : St) (h0 h : Heap) (locs : List Loc) : Prop :=
  HRep P Z h adr c s ∧ Fr n0 locs ∧ Kp h0 h adr P.al.length ∧ h.size = (if mi = 0 then adr + 1 + c else h0.size)
def co (mi c : Nat) : Nat := if mi = 0 then c else 0
def zo (P : Cl) (mi c : Nat) : Nat := if mi = 0 then zs P.al c else 0
/-- what the walk of a body is to show, at a given fuel -/
def CW (P : Cl) (Z : State) (n0 adr f mi : Nat) (me : Me) : Prop :=
  ∀ (p : Program) (l : Launch) (e : Env) (s₀ : State) (m : MethodId) (args : Array Value) (below : List Frame) (meth : Method) (cd : Code) (T : State) (locs : List Loc) (h0 : Heap) (c pc : Nat) (ls : Lv) (st : List Value) (s : St) (v : Option Value) (s' : St) (L : Array Slot),
    p.tables.exec = Jvm.exec → Z.Warmed39 s₀.vm → s₀.vm.findClass P.nm = some m.cls → meth.name = me.nm → meth.sig.returnType = retOf me.rt → cd.maxLocals = me.ml → meth.locks = false → (mi = 0 → s₀.heap.size = adr + 1) →
    (∀ pc i n, fetch me.cd pc = some (i, n) → decode cd.code pc = .ok (i, n) ∧ (isSw i = true ∨ n = ilen i)) →
    cexec P f mi me c pc ls st s = some (v, s') →
    Stand p l e (cRoom P mi me) s₀ m args below meth cd T locs (co mi c) (zo P mi c) →
    Inv P Z n0 adr mi c s h0 T.heap locs → LR (adr + ·) ls L → ls.length = me.ml →
    Don p e below s₀ (cRoom P mi me) (QC P Z n0 adr mi c v s' h0) (T.setTop (mkF m pc L (st.map (va (adr + ·)))))
theorem zs_mono (al : List (Nat × Nat)) {a b : Nat} (h : a ≤ b) : zs al a ≤ zs al b := by
  obtain ⟨d, rfl⟩ := Nat.le.dest h
  simp only [zs]
  rw [List.take_add, List.map_append, List.sum_append]; omega
theorem zs_succ (al : List (Nat × Nat)) {c tt N : Nat} (h : al[c]? = some (tt, N)) : zs al (c + 1) = zs al c + N := by
  simp only [zs, List.take_add_one, h]; simp
theorem zs_le (al : List (Nat × Nat)) (a : Nat) : zs al a ≤ zs al al.length := by
  by_cases h : a ≤ al.length
  · exact zs_mono al h
  · simp only [zs]; rw [List.take_of_length_le (by omega), List.take_of_length_le (Nat.le_refl _)]
    exact Nat.le_refl _
theorem narrow_I (z : Int32) : narrow .int (.int z) = .int z := rfl
theorem inb_not {n : Nat} {i : Int32} (h : inb n i) : ¬ (i < 0 ∨ n ≤ i.toNatClampNeg) := by
  intro q
  simp only [Int32.lt_iff_toInt_lt, Int32.toNatClampNeg, Int32.reduceToInt] at q
  have := h.1; have := h.2
  omega
theorem inb_ix {n : Nat} {i : Int32} (h : inb n i) : ix i < n := by
  have := h.1; have := h.2
  simp only [ix, Int32.toNatClampNeg]; omega
end Jvm.LM

namespace Jvm.LM
open Sem ClassFile Op Lib Jvm.Stand Jvm.Free Jvm.LawKit Jvm.RoadKit
/-! entering a method -/
def slA : List Value → List Slot
  | [] => []
  | v :: r => if v.category = 2 then .val v :: .second :: slA r else .val v :: slA r
theorem foldl_slA (as : List Value) (acc : Array Slot) : as.foldl (fun acc v => if v.category = 2 then (acc.push (.val v)).push .second else acc.push (.val v)) acc = acc ++ (slA as).toArray := by
  induction as generalizing acc with
  | nil => simp [slA]
  | cons v r ih =>
    rw [List.foldl_cons, ih]
    simp only [slA]
    split <;> simp
theorem al_eq (args : Array Value) (n : Nat) : argsToLocals args n = (let filled := args.foldl (init := #[]) fun acc v => if v.category = 2 then (acc.push (.val v)).push .second else acc.push (.val v); filled ++ Array.replicate (n - filled.size) .unset) := rfl
theorem atl_eq (as : List Value) (n : Nat) : argsToLocals as.toArray n = (slA as ++ List.replicate (n - (slA as).length) Slot.unset).toArray := by
  rw [al_eq]
  have : Array.foldl (fun acc v => if v.category = 2 then (acc.push (Slot.val v)).push .second else acc.push (.val v)) #[] as.toArray = (slA as).toArray := by
    rw [List.foldl_toArray, foldl_slA]; simp
  simp only [this]
  simp
theorem wfl_one {x : Slot} {l : List Slot} (h : WFf (fun k => l[k]?)) (hx : x ≠ .second) (hc : ∀ v, x = .val v → v.category ≠ 2) : WFf (fun k => (x :: l)[k]?) := by
  obtain ⟨h1, h2, h3⟩ := h
  refine ⟨fun k v hk hv => ?_, fun k hk => ?_, ?_⟩
  · cases k with
    | zero => simp at hk; exact absurd hv (hc v hk)
    | succ k => simp at hk ⊢; exact h1 k v hk hv
  · cases k with
    | zero => simp at hk; exact absurd (by simpa using hk) h3
    | succ k => simp at hk ⊢; exact h2 k (by simpa using hk)
  · simpa using hx
theorem wfl_two {v : Value} {l : List Slot} (h : WFf (fun k => l[k]?)) (hc : v.category = 2) : WFf (fun k => (Slot.val v :: .second :: l)[k]?) := by
  obtain ⟨h1, h2, h3⟩ := h
  refine ⟨fun k w hk hv => ?_, fun k hk => ?_, by simp⟩
  · match k with
    | 0 => simp
    | 1 => simp at hk
    | k + 2 => simp at hk ⊢; exact h1 k w hk hv
  · match k with
    | 0 => exact ⟨v, by simp, hc⟩
    | 1 => exact absurd (by simpa using hk) h3
    | k + 2 => simp at hk ⊢; exact h2 k (by simpa using hk)
theorem wfl_rep (n : Nat) : WFf (fun k => (List.replicate n Slot.unset)[k]?) := by
  refine ⟨fun k v hk _ => ?_, fun k hk => ?_, ?_⟩
  · simp [List.getElem?_replicate] at hk
  · simp [List.getElem?_replicate] at hk
  · simp [List.getElem?_replicate]
theorem wfl_slA (as : List Value) (r : List Slot) (h : WFf (fun k => r[k]?)) : WFf (fun k => (slA as ++ r)[k]?) := by
  induction as with
  | nil => simpa [slA] using h
  | cons v t ih =>
    simp only [slA]
    split
    · rename_i hc; exact wfl_two ih hc
    · rename_i hc; exact wfl_one ih (by simp) (fun w hw => by cases hw; exact hc)
theorem slA_len (ρ : Nat → Nat) (as : List Value) (hd : ∀ v ∈ as, ∀ x, v ≠ .double x) : (slA (as.map (va ρ))).length = (layA as).length := by
  induction as with
  | nil => rfl
  | cons v t ih =>
    have ih := ih fun w hw => hd w (List.mem_cons_of_mem _ hw)
    cases v <;> simp [slA, layA, va, Value.category, ih]
    exact absurd rfl (hd _ (List.mem_cons_self ..) _)
theorem layA_get {ρ : Nat → Nat} {as : List Value} (hd : ∀ v ∈ as, ∀ x, v ≠ .double x) {k : Nat} {w : Value} (h : (layA as)[k]? = some (some w)) : (slA (as.map (va ρ)))[k]? = some (.val (va ρ w)) := by
  induction as generalizing k with
  | nil => simp [layA] at h
  | cons v t ih =>
    have ih' := fun {k} => ih (k := k) fun w hw => hd w (List.mem_cons_of_mem _ hw)
    cases v
    case long x =>
      simp only [layA] at h
      match k with
      | 0 => simp at h; subst h; simp [slA, va, Value.category]
      | 1 => simp at h
      | k + 2 => simp at h; simpa [slA, va, Value.category] using ih' h
    case double x => exact absurd rfl (hd _ (List.mem_cons_self ..) _)
    all_goals
      simp only [layA] at h
      match k with
      | 0 => simp at h; subst h; simp [slA, va, Value.category]
      | k + 1 => simp at h; simpa [slA, va, Value.category] using ih' h
theorem lay_LR {ρ : Nat → Nat} {as : List Value} (hd : ∀ v ∈ as, ∀ x, v ≠ .double x) {n : Nat} (hn : (layA as).length ≤ n) : LR ρ (lay as n) (argsToLocals (as.map (va ρ)).toArray n) := by
  rw [atl_eq]
  have hl := slA_len ρ as hd
  refine ⟨by simp [lay, hl], fun k w hk => ?_, ?_⟩
  · simp only [lay] at hk
    rw [List.getElem?_append] at hk
    split at hk
    · have := layA_get (ρ := ρ) hd hk
      rw [List.getElem?_toArray, List.getElem?_append_left (by omega)]; exact this
    · simp [List.getElem?_replicate] at hk
  · have := wfl_slA (as.map (va ρ)) (List.replicate (n - (slA (as.map (va ρ))).length) Slot.unset) (wfl_rep _)
    have q : WFf (fun k => ((slA (as.map (va ρ)) ++ List.replicate (n - (slA (as.map (va ρ))).length) Slot.unset).toArray)[k]?) := by
      simpa using this
    exact q
theorem lay_len {as : List Value} {n : Nat} (hn : (layA as).length ≤ n) : (lay as n).length = n := by simp [lay]; omega
section Call
variable {p : Program} {l : Launch} {e : Env} {R : Room} {s : State} {m : MethodId} {args : Array Value} {below : List Frame} {meth : Method} {c : Code} {T : State} {locs : List Loc} {cells slots : Nat}
/-- a private method of a class that is no interface -/
theorem privCall (X : Stand p l e R s m args below meth c T locs cells slots) (hexec : p.tables.exec = Jvm.exec) {own : String} {index : Nat} {y : MethodName} {bytes : ByteArray} {maxL nF : Nat} {ret : Option FieldType}
    (hown : s.vm.findClass own = some m.cls) (hlink : (Cond.methodLink own index y).before args s = true) (hinst : (Cond.instanceMethod y).before args s = true) (hi : (Cond.instantiable y.cls nF).before args s = true)
    (hpriv : s.PrivateAt y) (hcode : (Cond.code y bytes maxL ret).before args s = true) (hy : y.cls ≠ "java/lang/invoke/MethodHandle" ∧ y.cls ≠ "java/lang/invoke/VarHandle")
    {W : Nat} {Pre : Free.Pt → Array Value → Prop} {Post : Free.Pt → Array Value → Option Value → Free.Pt → Prop} (hK : Free.Back l R p e below s args y 3 W Pre Post)
    {g : JFrame} (hg : g.method = m) (hsize : g.locals.size = c.maxLocals) {a : Addr} {cell : Cell} (hcell : T.heap[a]? = some cell) (hobj : ∀ q, cell.vm ≠ .statics q)
    {argsL rest : List Value} (hlen : ∀ sig, parseMethodDescriptor y.desc = some sig → argsL.length = sig.parameters.length)
    (hstack : g.stack = argsL.reverse ++ .ref a :: rest) (hW : 2 * g.monitorRoom + (rest.map fun v => v.category).sum ≤ W) (hdg : decode c.code g.pc = .ok (.invokevirtual index, 3))
    (hpre : ∀ vm₁, s.WarmedH vm₁ → Pre ⟨T.setVm vm₁, locs, cells, slots⟩ (.ref a :: argsL).toArray) :
    ∃ (v : Option Value) (vm₁ : Vm) (B : Free.Pt), s.WarmedH vm₁ ∧ Stand p l e R s m args below meth c B.U B.locs B.cells B.slots ∧ Post ⟨T.setVm vm₁, locs, cells, slots⟩ (.ref a :: argsL).toArray v B ∧
      Steps p.tables e below (T.setTop g) (B.U.setTop { g with pc := g.pc + 3, stack := v.toList ++ rest }) := by
  obtain ⟨mk, mM, hnamed, hmM, hst, hab⟩ := Cond.instanceMethod_spec hinst
  obtain ⟨mM', cM, hmM', -, -, -, -, -, -, hsig⟩ := Cond.code_spec hnamed hcode
  cases hmM.symm.trans hmM'
  obtain ⟨cc, kk, i1, i2, -, i4, -⟩ := Cond.instantiable_spec hi
  cases (findClass_of_methodNamed hnamed).symm.trans i1
  have hni : kk.isInterface = false := by
    cases q : kk.isInterface
    · rfl
    · rw [q] at i4; simp at i4
  have hsel : selectMethod e.platform s.vm cell.cls mk = .method mk := selectMethod_private hmM (hpriv mk mM hnamed hmM)
  obtain ⟨vm₁, X₁, hstep⟩ := X.invokevirtual hexec hown hlink hnamed hmM hst i2 hni hy hcell hobj hsel hmM hab i2 hni (g := g) hg (hlen _ hsig) hstack hdg
  obtain ⟨v, B, X', hpost, hs⟩ := hK m meth c ⟨T.setVm vm₁, locs, cells, slots⟩ { g with stack := rest } (.invokevirtual index) mk (.ref a :: argsL).toArray X₁ hg hsize hdg hW (X₁.named hnamed) (hpre vm₁ X₁.warmed)
  exact ⟨v, vm₁, B, X₁.warmed, X', hpost, hstep _ fun acts => by rw [doInvoke_state]; exact hs⟩
end Call
theorem cats_va (ρ : Nat → Nat) (st : List Value) : ((st.map (va ρ)).map fun v => v.category).sum = cats st := by
  simp only [cats, List.map_map]; congr 1; exact List.map_congr_left fun v _ => cat_va ρ v
/-- what a method of the class keeps, as a contract, from its walk -/
theorem met_of_CW {P : Cl} {Z : State} {a0 : Array Value} (LK : LinkC P Z a0) {n0 adr f mi : Nat} {me : Me} (hme : asc P.ms mi = some me) (hW : CW P Z n0 adr f mi me) (l : Launch) {bytes : ByteArray}
    (hdec : ∀ pc i n, fetch me.cd pc = some (i, n) → decode bytes pc = .ok (i, n) ∧ (isSw i = true ∨ n = ilen i))
    {as : List Value} (hd : ∀ v ∈ as, ∀ x, v ≠ .double x) (hlen : (layA as).length ≤ me.ml) {c : Nat} {s s' : St} {v : Option Value} {h : Heap} (hr : cexec P f mi me c 0 (lay as me.ml) [] s = some (v, s')) (hc : mi = 0 → c = 0)
    (H : HRep P Z h adr c s) (hsz : mi = 0 → h.size = adr + 1) :
    MetFree l (yOf P me) (head1 [Cond.code (yOf P me) bytes me.ml (retOf me.rt)] (cRoom P mi me)) (fun a U => a = (as.map (va (adr + ·))).toArray ∧ Z.Warmed39 U.vm ∧ U.heap = h) (fun _ _ _ _ _ => True)
      (fun _ U o U' => ∃ w L, o = .returned w ∧ QC P Z n0 adr mi c v s' h w U'.heap L ∧ FrameEnd U o U' L (cRoom P mi me).cells (cRoom P mi me).slots) := by
  refine MetFree.of_bodySF (plainFor_of_name LK.2.2.2.2.2.2.2.2.2.2.1) hisR ?_
  intro p e s₀ m args below meth cd s₁ Bd hml hP hK
  obtain ⟨rfl, hZ, hh⟩ := hP
  have e0 : s₁.heap = h := by rw [← hh, Bd.state]; rfl
  have X0 : Stand p l e (cRoom P mi me) s₀ m _ below meth cd s₁ [] 0 0 := Stand.of_body Bd
  have hown : s₀.vm.findClass P.nm = some m.cls := findClass_of_methodNamed Bd.named
  have hnm : meth.name = me.nm := (name_of_methodNamed Bd.named Bd.method).1
  have hk0 : co mi c = 0 := by simp only [co]; split; · rename_i q; exact hc q
                               · rfl
  have hz0 : zo P mi c = 0 := by
    simp only [zo]; split
    · rename_i q; rw [hc q]; simp [zs]
    · rfl
  have D := hW p l e s₀ m _ below meth cd s₁ [] h c 0 (lay as me.ml) [] s v s' _ Bd.exec hZ hown hnm Bd.returns hml Bd.notSynchronized (fun q => by rw [hh]; exact hsz q)
    (fun pc i n q => by rw [Bd.bytes]; exact hdec pc i n q) hr (by rw [hk0, hz0]; exact X0)
    ⟨by rw [e0]; exact H, Fr.nil n0, by rw [e0]; exact fun x _ => rfl, by
      rw [e0]; split
      · rename_i q; rw [hsz q, hc q]
      · rfl⟩ (lay_LR hd hlen) (lay_len hlen)
  obtain ⟨s₂, o, a1, a2, a3, w, L, a4, a5, a6⟩ := D
  exact ⟨s₂, o, a1, a2, a3, w, L, a4, a5, a6⟩
end Jvm.LM

namespace Jvm.LM
open Sem ClassFile Op Lib Jvm.Stand Jvm.Free Jvm.LawKit Jvm.RoadKit
section Steps
variable {p : Program} {l : Launch} {e : Env} {R : Room} {s₀ : State} {m : MethodId} {args : Array Value} {below : List Frame} {meth : Method} {cd : Code} {T : State} {locs : List Loc} {cells slots : Nat}
variable {P : Cl} {Z : State} {a0 : Array Value} {n0 adr c mi : Nat} {s s' : St} {h0 : Heap}
theorem gfld_val {x : Nat} {w : Value} (hg : gfld P x c s = some w) : ∃ k fe, asc P.fx x = some k ∧ asc P.fs k = some fe ∧ Fval adr c s k fe = va (adr + ·) w := by
  unfold gfld at hg
  split at hg
  · cases hg
  · rename_i k e1
    split at hg
    · cases hg
    · rename_i fe e2
      refine ⟨k, fe, e1, e2, ?_⟩
      simp only [Fval]
      split at hg
      · rename_i e3; cases hg; first | rfl | (rw [e3]; rfl)
      · rename_i e3; cases hg; first | rfl | (rw [e3]; rfl)
      · rename_i e3; cases hg; first | rfl | (rw [e3]; rfl)
      · rename_i j e3
        split at hg
        · rename_i e4; cases hg; first | (simp only [if_pos e4]; rfl) | (rw [e3]; simp only [if_pos e4]; rfl)
        · cases hg
theorem st_get (LK : LinkC P Z a0) (X : Stand p l e R s₀ m args below meth cd T locs cells slots) (hx : p.tables.exec = Jvm.exec) (hZ : Z.Warmed39 s₀.vm) (hown : s₀.vm.findClass P.nm = some m.cls) (H : HRep P Z T.heap adr c s) {x pc : Nat} {w : Value} (hg : gfld P x c s = some w)
    (hd : decode cd.code pc = .ok (.getfield x, 3)) {L : Array Slot} {r : List Value} :
    ∃ T', Stand p l e R s₀ m args below meth cd T' locs cells slots ∧ T'.heap = T.heap ∧ ∀ t, Steps p.tables e below (T'.setTop (mkF m (pc + 3) L (va (adr + ·) w :: r))) t → Steps p.tables e below (T.setTop (mkF m pc L (.ref adr :: r))) t := by
  obtain ⟨k, fe, e1, e2, e3⟩ := gfld_val (adr := adr) hg
  have F := H.2.1 k fe e2
  rw [e3] at F
  exact getF X hx hZ hown (host := "") (Or.inl (LK.2.1 _ _ e1 _ e2)) Via.refl rfl F (g := mkF m pc L (.ref adr :: r)) rfl rfl hd
theorem st_put (LK : LinkC P Z a0) (X : Stand p l e R s₀ m args below meth cd T locs cells slots) (hx : p.tables.exec = Jvm.exec) (hZ : Z.Warmed39 s₀.vm) (hown : s₀.vm.findClass P.nm = some m.cls) (hna : n0 ≤ adr) (I : Inv P Z n0 adr mi c s h0 T.heap locs) {x pc : Nat} {w : Value} {ini : Bool} (hini : ini = true → meth.name = "<init>") (hg : pfld P x ini w s = some s')
    (hd : decode cd.code pc = .ok (.putfield x, 3)) {L : Array Slot} {r : List Value} :
    ∃ T' locs', Stand p l e R s₀ m args below meth cd T' locs' cells slots ∧ Inv P Z n0 adr mi c s' h0 T'.heap locs' ∧ ∀ t, Steps p.tables e below (T'.setTop (mkF m (pc + 3) L r)) t → Steps p.tables e below (T.setTop (mkF m pc L (w :: .ref adr :: r))) t := by
  obtain ⟨H, hFr, hK, hS⟩ := I
  obtain ⟨nF, hnF⟩ := LK.1.1
  unfold pfld at hg
  split at hg
  · cases hg
  · rename_i k e1
    split at hg
    · cases hg
    · rename_i fe e2
      split at hg
      · cases hg
      · rename_i e3
        have hL : (Cond.lays P.nm P.nm fe.1 fe.2.1).before a0 Z = true ∨ ((Cond.laysFinal P.nm P.nm fe.1 fe.2.1).before a0 Z = true ∧ P.nm = P.nm ∧ meth.name = "<init>") := by
          have q := LK.2.2.1 k fe e2
          split at q
          · rename_i e4
            refine Or.inr ⟨q, rfl, hini ?_⟩
            cases ini
            · exact absurd ⟨e4, rfl⟩ e3
            · rfl
          · exact Or.inl q
        have hp := LK.2.2.2.1 k fe e2
        have fin : ∀ {T' : State} {h' : Heap} {v' : Value}, Stand p l e R s₀ m args below meth cd T' (locs ++ [⟨adr, RoadKit.slotOf Z P.nm fe.1 fe.2.1⟩]) cells slots → T'.heap = h' → Wr T.heap h' adr (RoadKit.slotOf Z P.nm fe.1 fe.2.1) v' → v' = Fval adr c s' k fe →
            (∀ a b, (a ≠ 0 ∨ b ≠ k) → gI s' a b = gI s a b ∧ gL s' a b = gL s a b) → Inv P Z n0 adr mi c s' h0 T'.heap (locs ++ [⟨adr, RoadKit.slotOf Z P.nm fe.1 fe.2.1⟩]) := fun {T' h' v'} X' e4 W e5 e6 => by
          rw [e4]
          exact ⟨H.putFld LK e2 W e5 e6, Fr.snoc X' hFr hna, hK.wr W (Nat.le_refl _) (by omega), by rw [W.size]; exact hS⟩
        split at hg
        · rename_i z e4
          cases hg
          rw [e4] at hp
          obtain ⟨T', h', X', q1, W, st⟩ := putF X hx hZ hown (host := "") (Or.inl (LK.2.1 _ _ e1 _ e2)) Via.refl rfl (H.2.1 k fe e2) H.1 hL hnF hp (narrow_I z) rfl (g := mkF m pc L (.int z :: .ref adr :: r)) rfl rfl hd
          refine ⟨T', _, X', fin X' q1 W (by simp only [Fval, e4]; simp [gI_sI]) (fun a b hab => ?_), st⟩
          rw [gI_sI, gL_sI, if_neg (by omega)]; exact ⟨rfl, rfl⟩
        · rename_i z e4
          cases hg
          rw [e4] at hp
          obtain ⟨T', h', X', q1, W, st⟩ := putFN X hx hZ hown (LK.2.1 _ _ e1 _ e2) Via.refl rfl (H.2.1 k fe e2) H.1 hL hnF (v' := .int (z &&& 1)) hp rfl (fits_nar_bool z) (g := mkF m pc L (.int z :: .ref adr :: r)) rfl rfl hd
          refine ⟨T', _, X', fin X' q1 W (by simp only [Fval, e4]; simp [gI_sI]) (fun a b hab => ?_), st⟩
          rw [gI_sI, gL_sI, if_neg (by omega)]; exact ⟨rfl, rfl⟩
        · rename_i z e4
          cases hg
          rw [e4] at hp
          obtain ⟨T', h', X', q1, W, st⟩ := putF X hx hZ hown (host := "") (Or.inl (LK.2.1 _ _ e1 _ e2)) Via.refl rfl (H.2.1 k fe e2) H.1 hL hnF hp rfl rfl (g := mkF m pc L (.long z :: .ref adr :: r)) rfl rfl hd
          refine ⟨T', _, X', fin X' q1 W (by simp only [Fval, e4]; simp [gL_sL]) (fun a b hab => ?_), st⟩
          rw [gL_sL, gI_sL, if_neg (by omega)]; exact ⟨rfl, rfl⟩
        · cases hg
theorem lda_spec {tt : Nat} {st st' : List Value} (hl : lda P tt c st s = some st') : ∃ i a r N, st = .int i :: .ref (a + 1) :: r ∧ P.al[a]? = some (tt, N) ∧ a < c ∧ inb N i ∧ st' = elv tt s (a + 1) (ix i) :: r := by
  unfold lda at hl
  split at hl
  · rename_i i a r
    split at hl
    · rename_i t2 N e1
      split at hl
      · rename_i e2
        obtain ⟨rfl, e3⟩ := e2
        split at hl
        · rename_i e4; cases hl; exact ⟨i, a, r, N, rfl, e1, e3, e4, rfl⟩
        · cases hl
      · cases hl
    · cases hl
  · cases hl
theorem va_elv (ρ : Nat → Nat) (tt : Nat) (s : St) (j i : Nat) : va ρ (elv tt s j i) = elv tt s j i := by unfold elv; split <;> rfl
theorem st_lda (X : Stand p l e R s₀ m args below meth cd T locs cells slots) (hx : p.tables.exec = Jvm.exec) (hZ : Z.Warmed39 s₀.vm) (H : HRep P Z T.heap adr c s) {tt pc : Nat} {st st' : List Value} (hl : lda P tt c st s = some st') {i : Instr}
    (hi : (tt = 0 ∧ i = .iaload) ∨ (tt = 1 ∧ i = .baload) ∨ (tt = 2 ∧ i = .laload)) (hd : decode cd.code pc = .ok (i, 1)) {L : Array Slot} :
    ∀ t, Steps p.tables e below (T.setTop (mkF m (pc + 1) L (st'.map (va (adr + ·))))) t → Steps p.tables e below (T.setTop (mkF m pc L (st.map (va (adr + ·))))) t := by
  obtain ⟨j, a, r, N, rfl, e1, e2, e3, rfl⟩ := lda_spec hl
  obtain ⟨cl, A, hN, hv⟩ := H.2.2.1 a tt N e1 e2
  have hin : ¬ (j < 0 ∨ cl.slots.size ≤ j.toNatClampNeg) := by rw [hN]; exact inb_not e3
  have hat : cl.slots[j.toNatClampNeg]? = some (elv tt s (a + 1) (ix j)) := hv (ix j) (inb_ix e3)
  intro t q
  rw [List.map_cons, va_elv] at q
  rcases hi with ⟨rfl, rfl⟩ | ⟨rfl, rfl⟩ | ⟨rfl, rfl⟩
  · exact X.iaload hx A.1 (State.isArrayOf_alike hZ.alike A.2.1) A.2.2 hin hat (g := mkF m pc L (.int j :: .ref (adr + (a + 1)) :: r.map (va (adr + ·)))) rfl rfl hd t q
  · exact X.baloadBooleans hx A.1 (State.isArrayOf_alike hZ.alike A.2.1) A.2.2 hin hat (g := mkF m pc L (.int j :: .ref (adr + (a + 1)) :: r.map (va (adr + ·)))) rfl rfl hd t q
  · exact X.laload hx A.1 (State.isArrayOf_alike hZ.alike A.2.1) A.2.2 hin hat (g := mkF m pc L (.int j :: .ref (adr + (a + 1)) :: r.map (va (adr + ·)))) rfl rfl hd t q
theorem sta_spec {tt : Nat} {st st' : List Value} (hl : sta P tt c st s = some (st', s')) : ∃ v i a N, st = v :: .int i :: .ref (a + 1) :: st' ∧ P.al[a]? = some (tt, N) ∧ a < c ∧ inb N i ∧
    ((tt = 0 ∧ ∃ z, v = .int z ∧ s' = sI s (a + 1) (ix i) z) ∨ (tt = 1 ∧ ∃ z, v = .int z ∧ s' = sI s (a + 1) (ix i) (z &&& 1)) ∨ (tt = 2 ∧ ∃ z, v = .long z ∧ s' = sL s (a + 1) (ix i) z)) := by
  unfold sta at hl
  split at hl
  · rename_i v i a r
    split at hl
    · rename_i t2 N e1
      split at hl
      · rename_i e2
        obtain ⟨rfl, e3⟩ := e2
        split at hl
        · rename_i e4
          split at hl
          · cases hl; exact ⟨_, i, a, N, rfl, e1, e3, e4, Or.inl ⟨rfl, _, rfl, rfl⟩⟩
          · cases hl; exact ⟨_, i, a, N, rfl, e1, e3, e4, Or.inr (Or.inl ⟨rfl, _, rfl, rfl⟩)⟩
          · cases hl; exact ⟨_, i, a, N, rfl, e1, e3, e4, Or.inr (Or.inr ⟨rfl, _, rfl, rfl⟩)⟩
          · cases hl
        · cases hl
      · cases hl
    · cases hl
  · cases hl
theorem st_sta (X : Stand p l e R s₀ m args below meth cd T locs cells slots) (hx : p.tables.exec = Jvm.exec) (hZ : Z.Warmed39 s₀.vm) (hna : n0 ≤ adr) (I : Inv P Z n0 adr mi c s h0 T.heap locs) {tt pc : Nat} {st st' : List Value} (hl : sta P tt c st s = some (st', s')) {i : Instr}
    (hi : (tt = 0 ∧ i = .iastore) ∨ (tt = 1 ∧ i = .bastore) ∨ (tt = 2 ∧ i = .lastore)) (hd : decode cd.code pc = .ok (i, 1)) {L : Array Slot} :
    ∃ T' locs', Stand p l e R s₀ m args below meth cd T' locs' cells slots ∧ Inv P Z n0 adr mi c s' h0 T'.heap locs' ∧ ∀ t, Steps p.tables e below (T'.setTop (mkF m (pc + 1) L (st'.map (va (adr + ·))))) t → Steps p.tables e below (T.setTop (mkF m pc L (st.map (va (adr + ·))))) t := by
  obtain ⟨H, hFr, hK, hS⟩ := I
  obtain ⟨v, j, a, N, rfl, e1, e2, e3, e4⟩ := sta_spec hl
  obtain ⟨cl, A, hN, hv⟩ := H.2.2.1 a tt N e1 e2
  have hin : ¬ (j < 0 ∨ cl.slots.size ≤ j.toNatClampNeg) := by rw [hN]; exact inb_not e3
  have hal := (List.getElem?_eq_some_iff.mp e1).1
  have fin : ∀ {T' : State} {h' : Heap} {v' : Value}, Stand p l e R s₀ m args below meth cd T' (locs ++ [⟨adr + (a + 1), j.toNatClampNeg⟩]) cells slots → T'.heap = h' → Wr T.heap h' (adr + (a + 1)) j.toNatClampNeg v' → v' = elv tt s' (a + 1) (ix j) →
      (∀ x y, (x ≠ a + 1 ∨ y ≠ ix j) → gI s' x y = gI s x y ∧ gL s' x y = gL s x y) → Inv P Z n0 adr mi c s' h0 T'.heap (locs ++ [⟨adr + (a + 1), j.toNatClampNeg⟩]) := fun {T' h' v'} X' q1 W q2 q3 => by
    rw [q1]
    exact ⟨H.putArr e1 e2 (inb_ix e3) W q2 q3, Fr.snoc X' hFr (by omega), hK.wr W (by omega) (by omega), by rw [W.size]; exact hS⟩
  rcases e4 with ⟨rfl, z, rfl, rfl⟩ | ⟨rfl, z, rfl, rfl⟩ | ⟨rfl, z, rfl, rfl⟩
  · obtain ⟨-, rfl⟩ : (0 : Nat) = 0 ∧ i = .iastore := by rcases hi with q | q | q <;> first | exact q | (have := q.1; omega)
    obtain ⟨T', h', X', q1, W, st⟩ := stI X hx hZ rfl A hin (g := mkF m pc L (.int z :: .int j :: .ref (adr + (a + 1)) :: st'.map (va (adr + ·)))) rfl rfl hd
    refine ⟨T', _, X', fin X' q1 W (by simp [elv, gI_sI, ix]) (fun x y hxy => ?_), st⟩
    rw [gI_sI, gL_sI, if_neg (fun q => hxy.elim (fun z => z q.1) (fun z => z q.2))]; exact ⟨rfl, rfl⟩
  · obtain ⟨-, rfl⟩ : (1 : Nat) = 1 ∧ i = .bastore := by rcases hi with q | q | q <;> first | exact q | (have := q.1; omega)
    obtain ⟨T', h', X', q1, W, st⟩ := stZ X hx hZ rfl A hin (g := mkF m pc L (.int z :: .int j :: .ref (adr + (a + 1)) :: st'.map (va (adr + ·)))) rfl rfl hd
    refine ⟨T', _, X', fin X' q1 W (by simp [elv, gI_sI, ix, nar]) (fun x y hxy => ?_), st⟩
    rw [gI_sI, gL_sI, if_neg (fun q => hxy.elim (fun z => z q.1) (fun z => z q.2))]; exact ⟨rfl, rfl⟩
  · obtain ⟨-, rfl⟩ : (2 : Nat) = 2 ∧ i = .lastore := by rcases hi with q | q | q <;> first | exact q | (have := q.1; omega)
    obtain ⟨T', h', X', q1, W, st⟩ := stJ X hx hZ rfl A hin (g := mkF m pc L (.long z :: .int j :: .ref (adr + (a + 1)) :: st'.map (va (adr + ·)))) rfl rfl hd
    refine ⟨T', _, X', fin X' q1 W (by simp [elv, gL_sL, ix]) (fun x y hxy => ?_), st⟩
    rw [gL_sL, gI_sL, if_neg (fun q => hxy.elim (fun z => z q.1) (fun z => z q.2))]; exact ⟨rfl, rfl⟩
theorem newF_spec {t : ArrayType} {code : Cd} {pc : Nat} {st : List Value} (h : newF P t code pc c st = true) : ∃ n x k fe tt N, st = [.int n, .ref 0] ∧ fetch code (pc + 2) = some (.putfield x, 3) ∧ asc P.fx x = some k ∧ asc P.fs k = some fe ∧ P.al[c]? = some (tt, N) ∧
    fe.2.2.1 = c + 3 ∧ t = atOf tt ∧ 0 ≤ n.toInt ∧ n.toInt = N ∧ N < 1000000 := by
  unfold newF at h
  split at h
  · rename_i n
    split at h
    · rename_i x e1
      split at h
      · rename_i k e2
        split at h
        · rename_i fe e3
          split at h
          · rename_i tt N e4
            obtain ⟨q1, q2, q3, q4, q5⟩ := of_decide_eq_true h
            exact ⟨n, x, k, fe, tt, N, rfl, e1, e2, e3, e4, q1, q2, q3, q4, q5⟩
          · cases h
        · cases h
      · cases h
    · cases h
  · cases h
theorem ty_at {tt : Nat} (h : tt ≤ 2) : newarray.typeOf (atOf tt) = tyOf tt := by
  have : tt = 0 ∨ tt = 1 ∨ tt = 2 := by omega
  rcases this with rfl | rfl | rfl <;> rfl
theorem st_new (LK : LinkC P Z a0) {me : Me} (hme : asc P.ms 0 = some me) (hnm : meth.name = me.nm) (X : Stand p l e (cRoom P 0 me) s₀ m args below meth cd T locs (co 0 c) (zo P 0 c)) (hx : p.tables.exec = Jvm.exec) (hZ : Z.Warmed39 s₀.vm) (hown : s₀.vm.findClass P.nm = some m.cls) (hna : n0 ≤ adr) (hs0 : s₀.heap.size = adr + 1) (I : Inv P Z n0 adr 0 c s h0 T.heap locs)
    (hdec : ∀ pc i n, fetch me.cd pc = some (i, n) → decode cd.code pc = .ok (i, n) ∧ (isSw i = true ∨ n = ilen i)) {t : ArrayType} {pc : Nat} {st : List Value} (h : newF P t me.cd pc c st = true) (hd : decode cd.code pc = .ok (.newarray t, 2)) {L : Array Slot} :
    ∃ T' locs', Stand p l e (cRoom P 0 me) s₀ m args below meth cd T' locs' (co 0 (c + 1)) (zo P 0 (c + 1)) ∧ Inv P Z n0 adr 0 (c + 1) s h0 T'.heap locs' ∧ ∀ t, Steps p.tables e below (T'.setTop (mkF m (pc + 5) L [])) t → Steps p.tables e below (T.setTop (mkF m pc L (st.map (va (adr + ·))))) t := by
  obtain ⟨H, hFr, hK, hS⟩ := I
  obtain ⟨nF, hnF⟩ := LK.1.1
  obtain ⟨n, x, k, fe, tt, N, rfl, e1, e2, e3, e4, e5, rfl, e6, e7, e8⟩ := newF_spec h
  obtain ⟨htt, hac⟩ := LK.2.2.2.2.2.1 _ _ _ e4
  have hal := (List.getElem?_eq_some_iff.mp e4).1
  have hS' : T.heap.size = adr + 1 + c := hS
  have hty := ty_at htt
  have hini : meth.name = "<init>" := by rw [hnm]; exact LK.2.2.2.2.2.2.2.2.2.2.2.2 me hme
  have hLy : (Cond.lays P.nm P.nm fe.1 fe.2.1).before a0 Z = true ∨ ((Cond.laysFinal P.nm P.nm fe.1 fe.2.1).before a0 Z = true ∧ P.nm = P.nm ∧ meth.name = "<init>") := by
    have q := LK.2.2.1 k fe e3
    split at q
    · exact Or.inr ⟨q, rfl, hini⟩
    · exact Or.inl q
  have hzc := zs_succ P.al e4
  have hzm := zs_le P.al (c + 1)
  obtain ⟨T1, hp1, cA, X1, q1, E, A, st1⟩ := newP X hx hZ (aty := atOf tt) (by rw [hty]; exact hac) rfl (g := mkF m pc L [.int n, .ref adr]) rfl hd rfl (by rw [Int32.lt_iff_toInt_lt]; simp only [Int32.reduceToInt]; omega) (cap := N)
    (by simp only [Int32.toNatClampNeg]; omega) (by omega) (by simp only [co, cRoom, if_true]; omega) (by simp only [zo, cRoom, if_true]; omega)
  rw [hty] at A
  have hp := LK.2.2.2.1 k fe e3
  rw [e5] at hp
  obtain ⟨d2, -⟩ := hdec _ _ _ e1
  have hsz1 : hp1.size = adr + 1 + (c + 1) := by
    have hh : T1.heap.size ≤ s₀.heap.size + (c + 1) := X1.heapSize
    have g2 : T.heap.size < Array.size hp1 := A.lt
    rw [q1, hs0] at hh
    rw [hS'] at g2
    omega
  obtain ⟨T2, hp2, X2, q2, W, st2⟩ := putF X1 hx hZ hown (host := "") (Or.inl (LK.2.1 _ _ e2 _ e3)) Via.refl q1 ((H.2.1 k fe e3).ext E) (H.1.ext E) hLy hnF (v := .ref T.heap.size) hp rfl rfl (g := mkF m (pc + 2) L [.ref T.heap.size, .ref adr]) rfl rfl d2
  refine ⟨T2, _, by simpa [co, zo, hzc] using X2, ?_, fun t q => st1 _ (st2 _ q)⟩
  rw [q2]
  refine ⟨H.newArr LK e3 e5 e4 e6 e7 hS' E A W, Fr.snoc X2 hFr hna, ?_, by rw [W.size, hsz1]; simp⟩
  exact (hK.ext E (by rw [hsz1]; omega) (by omega)).wr W (Nat.le_refl _) (by omega)
end Steps
end Jvm.LM

namespace Jvm.LM
open Sem ClassFile Op Lib Jvm.Stand Jvm.Free Jvm.LawKit Jvm.RoadKit
theorem cret_spec {me : Me} {st : List Value} {i : Instr} {v : Option Value} (h : cret me st i = some v) :
    (∃ x, i = .ireturn ∧ st = [.int x] ∧ ((me.rt = 1 ∧ v = some (.int x)) ∨ (me.rt = 2 ∧ v = some (.int (x &&& 1))))) ∨ (∃ x, i = .lreturn ∧ st = [.long x] ∧ me.rt = 3 ∧ v = some (.long x)) ∨ (i = .return_ ∧ st = [] ∧ me.rt = 0 ∧ v = none) := by
  unfold cret at h
  split at h
  · split at h
    · rename_i x
      split at h
      · rename_i e1; cases h; exact Or.inl ⟨x, rfl, rfl, Or.inl ⟨e1, rfl⟩⟩
      · split at h
        · rename_i e1; cases h; exact Or.inl ⟨x, rfl, rfl, Or.inr ⟨e1, rfl⟩⟩
        · cases h
    · cases h
  · split at h
    · rename_i x
      split at h
      · rename_i e1; cases h; exact Or.inr (Or.inl ⟨x, rfl, rfl, e1, rfl⟩)
      · cases h
    · cases h
  · split at h
    · split at h
      · rename_i e1; cases h; exact Or.inr (Or.inr ⟨rfl, rfl, e1, rfl⟩)
      · cases h
    · cases h
  · cases h
section Ret
variable {p : Program} {l : Launch} {e : Env} {R : Room} {s₀ : State} {m : MethodId} {args : Array Value} {below : List Frame} {meth : Method} {cd : Code} {T : State} {locs : List Loc} {cells slots : Nat}
theorem retI' (X : Stand p l e R s₀ m args below meth cd T locs cells slots) (hx : p.tables.exec = Jvm.exec) {pc : Nat} {Ls : Array Slot} {z : Int32} {rest : List Value} (hret : meth.sig.returnType = some .int) (hd : decode cd.code pc = .ok (.ireturn, 1)) {fs : List Frame}
    (hl : ∀ (f : JFrame) (acts : List Action), f.method = m → f.locked = none → f.entered = [] → (doReturn e (T.setTop f) acts (some (.int z))).1 = T.setFrames fs) : Steps p.tables e below (T.setTop (mkF m pc Ls (.int z :: rest))) (T.setFrames fs) :=
  retOut X hx (t := .int) (i := .ireturn) hret rfl (Or.inl ⟨rfl, Or.inl rfl, z, rfl⟩) hd hl
theorem st_ret (X : Stand p l e R s₀ m args below meth cd T locs cells slots) (hx : p.tables.exec = Jvm.exec) {me : Me} (hret : meth.sig.returnType = retOf me.rt) (hlk : meth.locks = false) {ρ : Nat → Nat} {st : List Value} {i : Instr} {v : Option Value} (h : cret me st i = some v) {pc n : Nat} (hd : decode cd.code pc = .ok (i, n)) (hn : isSw i = true ∨ n = ilen i)
    {Q : Option Value → Heap → List Loc → Prop} (hQ : Q v T.heap locs) (hc : cells ≤ R.cells) (hs : slots ≤ R.slots) {L : Array Slot} : Don p e below s₀ R Q (T.setTop (mkF m pc L (st.map (va ρ)))) := by
  rcases cret_spec h with ⟨x, rfl, rfl, h1⟩ | ⟨x, rfl, rfl, h1, rfl⟩ | ⟨rfl, rfl, h1, rfl⟩
  · obtain rfl := hn.resolve_left Bool.false_ne_true
    rcases h1 with ⟨h1, rfl⟩ | ⟨h1, rfl⟩
    · rw [h1] at hret
      obtain ⟨fs, hr, hrun, hended, hW, hsame⟩ := X.leave (v := some (.int x)) (fun q => by rw [hret] at q; cases q) hlk
      exact ⟨_, _, retI' X hx hret hd hr, hrun, hended, _, _, rfl, hQ, ⟨_, rfl⟩, hW, hsame.mono hc hs⟩
    · rw [h1] at hret
      obtain ⟨fs, hr, hrun, hended, hW, hsame⟩ := X.leave (v := some (.int (x &&& 1))) (fun q => by rw [hret] at q; cases q) hlk
      exact ⟨_, _, retN X hx (t := .boolean) hret (Or.inl rfl) hd hr, hrun, hended, _, _, rfl, hQ, ⟨_, rfl⟩, hW, hsame.mono hc hs⟩
  · obtain rfl := hn.resolve_left Bool.false_ne_true
    rw [h1] at hret
    obtain ⟨fs, hr, hrun, hended, hW, hsame⟩ := X.leave (v := some (.long x)) (fun q => by rw [hret] at q; cases q) hlk
    exact ⟨_, _, retOut X hx (t := .long) (i := .lreturn) hret rfl (Or.inr (Or.inl ⟨rfl, rfl, x, rfl⟩)) hd hr, hrun, hended, _, _, rfl, hQ, ⟨_, rfl⟩, hW, hsame.mono hc hs⟩
  · obtain rfl := hn.resolve_left Bool.false_ne_true
    rw [h1] at hret
    obtain ⟨fs, hr, hrun, hended, hW, hsame⟩ := X.leave (v := none) (fun _ => rfl) hlk
    exact ⟨_, _, X.returnOut hx hret hd hr, hrun, hended, _, _, rfl, hQ, ⟨_, rfl⟩, hW, hsame.mono hc hs⟩
end Ret
theorem cret_va {me : Me} {st : List Value} {i : Instr} {v : Option Value} (h : cret me st i = some v) (ρ : Nat → Nat) : v.toList.map (va ρ) = v.toList := by
  rcases cret_spec h with ⟨x, rfl, rfl, ⟨-, rfl⟩ | ⟨-, rfl⟩⟩ | ⟨x, rfl, rfl, -, rfl⟩ | ⟨rfl, rfl, -, rfl⟩ <;> rfl
theorem nd_rev {ρ : Nat → Nat} {as : List Value} (h : nd as = true) : ∀ v ∈ (Value.ref 0 :: as.reverse), ∀ x, v ≠ .double x := fun v hv x e => by
  rcases List.mem_cons.mp hv with q | q
  · subst q; cases e
  · exact nd_spec h v (List.mem_reverse.mp q) x e
theorem pfld_va {P : Cl} {x : Nat} {ini : Bool} {w : Value} {s s1 : St} (hg : pfld P x ini w s = some s1) (ρ : Nat → Nat) : va ρ w = w := by
  cases w <;> first | rfl | skip
  exfalso
  unfold pfld at hg
  split at hg
  · cases hg
  · split at hg
    · cases hg
    · split at hg
      · cases hg
      · split at hg
        · rename_i q; cases q
        · rename_i q; cases q
        · rename_i q; cases q
        · cases hg
theorem cwalk {P : Cl} {Z : State} {a0 : Array Value} (LK : LinkC P Z a0) {n0 adr : Nat} (hna : n0 ≤ adr) : ∀ f mi me, asc P.ms mi = some me → CW P Z n0 adr f mi me := by
  intro f
  induction f with
  | zero =>
    intro mi me hme p l e s₀ m args below meth cd T locs h0 c pc ls st s v s' L hx hZ hown hnm hret hml hlk hs0 hdec hr
    cases hr
  | succ f ih =>
    intro mi me hme p l e s₀ m args below meth cd T locs h0 c pc ls st s v s' L hx hZ hown hnm hret hml hlk hs0 hdec hr X I hL hlen
    simp only [cexec] at hr
    split at hr
    · cases hr
    · rename_i i n hf
      obtain ⟨hd, hn⟩ := hdec pc i n hf
      have ihk := ih mi me hme
      have hsize : L.size = cd.maxLocals := by rw [hL.1, hlen, hml]
      obtain ⟨nF, hnF⟩ := LK.1.1
      unfold cstep at hr
      split at hr
      -- getfield
      · obtain rfl := hn.resolve_left Bool.false_ne_true
        split at hr
        · rename_i r
          split at hr
          · rename_i w hg
            obtain ⟨T', X', q1, st⟩ := st_get LK X hx hZ hown I.1 hg hd (L := L) (r := r.map (va (adr + ·)))
            exact Don.step st (ihk p l e s₀ m args below meth cd T' locs h0 c _ ls (w :: r) s v s' L hx hZ hown hnm hret hml hlk hs0 hdec hr X' (by rw [q1]; exact I) hL hlen)
          · cases hr
        · cases hr
      -- putfield
      · obtain rfl := hn.resolve_left Bool.false_ne_true
        split at hr
        · rename_i w r
          split at hr
          · rename_i s1 hg
            have hini : (mi == 0) = true → meth.name = "<init>" := fun q => by
              have q : mi = 0 := by simpa using q
              subst q; rw [hnm]; exact LK.2.2.2.2.2.2.2.2.2.2.2.2 me hme
            have hw : va (adr + ·) w = w := pfld_va hg _
            obtain ⟨T', locs', X', I', st⟩ := st_put LK X hx hZ hown hna I hini hg hd (L := L) (r := r.map (va (adr + ·)))
            refine Don.step (fun t q => ?_) (ihk p l e s₀ m args below meth cd T' locs' h0 c _ ls r s1 v s' L hx hZ hown hnm hret hml hlk hs0 hdec hr X' I' hL hlen)
            have := st t q
            rw [List.map_cons, hw]; exact this
          · cases hr
        · cases hr
      -- loads of arrays
      · obtain rfl := hn.resolve_left Bool.false_ne_true
        split at hr
        · rename_i st' hg
          exact Don.step (st_lda X hx hZ I.1 hg (Or.inl ⟨rfl, rfl⟩) hd) (ihk p l e s₀ m args below meth cd T locs h0 c _ ls st' s v s' L hx hZ hown hnm hret hml hlk hs0 hdec hr X I hL hlen)
        · cases hr
      · obtain rfl := hn.resolve_left Bool.false_ne_true
        split at hr
        · rename_i st' hg
          exact Don.step (st_lda X hx hZ I.1 hg (Or.inr (Or.inl ⟨rfl, rfl⟩)) hd) (ihk p l e s₀ m args below meth cd T locs h0 c _ ls st' s v s' L hx hZ hown hnm hret hml hlk hs0 hdec hr X I hL hlen)
        · cases hr
      · obtain rfl := hn.resolve_left Bool.false_ne_true
        split at hr
        · rename_i st' hg
          exact Don.step (st_lda X hx hZ I.1 hg (Or.inr (Or.inr ⟨rfl, rfl⟩)) hd) (ihk p l e s₀ m args below meth cd T locs h0 c _ ls st' s v s' L hx hZ hown hnm hret hml hlk hs0 hdec hr X I hL hlen)
        · cases hr
      -- stores into arrays
      · obtain rfl := hn.resolve_left Bool.false_ne_true
        split at hr
        · rename_i st' s1 hg
          obtain ⟨T', locs', X', I', st⟩ := st_sta X hx hZ hna I hg (Or.inl ⟨rfl, rfl⟩) hd (L := L)
          exact Don.step st (ihk p l e s₀ m args below meth cd T' locs' h0 c _ ls st' s1 v s' L hx hZ hown hnm hret hml hlk hs0 hdec hr X' I' hL hlen)
        · cases hr
      · obtain rfl := hn.resolve_left Bool.false_ne_true
        split at hr
        · rename_i st' s1 hg
          obtain ⟨T', locs', X', I', st⟩ := st_sta X hx hZ hna I hg (Or.inr (Or.inl ⟨rfl, rfl⟩)) hd (L := L)
          exact Don.step st (ihk p l e s₀ m args below meth cd T' locs' h0 c _ ls st' s1 v s' L hx hZ hown hnm hret hml hlk hs0 hdec hr X' I' hL hlen)
        · cases hr
      · obtain rfl := hn.resolve_left Bool.false_ne_true
        split at hr
        · rename_i st' s1 hg
          obtain ⟨T', locs', X', I', st⟩ := st_sta X hx hZ hna I hg (Or.inr (Or.inr ⟨rfl, rfl⟩)) hd (L := L)
          exact Don.step st (ihk p l e s₀ m args below meth cd T' locs' h0 c _ ls st' s1 v s' L hx hZ hown hnm hret hml hlk hs0 hdec hr X' I' hL hlen)
        · cases hr
      -- newarray and putfield
      · obtain rfl := hn.resolve_left Bool.false_ne_true
        split at hr
        · rename_i hg
          obtain ⟨rfl, hg⟩ := hg
          obtain ⟨T', locs', X', I', st⟩ := st_new LK hme hnm X hx hZ hown hna (hs0 rfl) I hdec hg hd (L := L)
          exact Don.step st (ihk p l e s₀ m args below meth cd T' locs' h0 (c + 1) _ ls [] s v s' L hx hZ hown hnm hret hml hlk hs0 hdec hr X' I' hL hlen)
        · cases hr
      -- constants
      · obtain rfl := hn.resolve_left Bool.false_ne_true
        split at hr
        · rename_i z hg
          exact Don.step (fun t q => X.ldcI hx hown (mv hZ (LK.2.2.2.2.2.2.1 _ _ hg)) (g := mkF m pc L (st.map (va (adr + ·)))) rfl hd q) (ihk p l e s₀ m args below meth cd T locs h0 c _ ls (.int z :: st) s v s' L hx hZ hown hnm hret hml hlk hs0 hdec hr X I hL hlen)
        · cases hr
      · obtain rfl := hn.resolve_left Bool.false_ne_true
        split at hr
        · rename_i z hg
          exact Don.step (fun t q => X.ldc2J hx hown (mv hZ (LK.2.2.2.2.2.2.1 _ _ hg)) (g := mkF m pc L (st.map (va (adr + ·)))) rfl hd q) (ihk p l e s₀ m args below meth cd T locs h0 c _ ls (.long z :: st) s v s' L hx hZ hown hnm hret hml hlk hs0 hdec hr X I hL hlen)
        · cases hr
      -- Object's constructor
      · obtain rfl := hn.resolve_left Bool.false_ne_true
        split at hr
        · rename_i r
          split at hr
          · rename_i hg
            obtain ⟨rfl, hg1, hg2⟩ := hg
            obtain ⟨w1, w2, w3⟩ := LK.2.2.2.2.2.2.2.1
            obtain ⟨T', X', q1, st⟩ := initO X hx hZ hown w1 w2 w3 rfl (g := mkF m pc L (.ref adr :: r.map (va (adr + ·)))) rfl hsize rfl hd hg1 (W := cats r) (by show 2 * 0 + _ ≤ _; rw [cats_va]; omega) hg2
            exact Don.step st (ihk p l e s₀ m args below meth cd T' locs h0 c _ ls r s v s' L hx hZ hown hnm hret hml hlk hs0 hdec hr X' (by rw [q1]; exact I) hL hlen)
          · cases hr
        · cases hr
      -- a call
      · obtain rfl := hn.resolve_left Bool.false_ne_true
        split at hr
        · cases hr
        · rename_i m' hm'
          split at hr
          · cases hr
          · rename_i me' hme'
            split at hr
            · rename_i r hst
              split at hr
              · rename_i hg
                obtain ⟨hg0, hg1, hg2, hg3⟩ := hg
                dsimp only at hr
                rw [hme'] at hr
                dsimp only at hr
                obtain ⟨bytes, ps, hcode, hdec', hpar, hpl⟩ := LK.2.2.2.2.2.2.2.2.1 m' me' hme'
                obtain ⟨w1, w2, w3⟩ := LK.2.2.2.2.2.2.2.2.2.1 _ _ hm' _ hme'
                by_cases hla : (layA (Value.ref 0 :: (st.take me'.na).reverse)).length ≤ me'.ml
                · rw [if_pos hla] at hr
                  cases hcl : cexec P f m' me' c 0 (lay (.ref 0 :: (st.take me'.na).reverse) me'.ml) [] s with
                  | none => rw [hcl] at hr; cases hr
                  | some vs =>
                    obtain ⟨w, s1⟩ := vs
                    rw [hcl] at hr
                    have hr' : cexec P f mi me c (pc + 3) ls (w.toList ++ r) s1 = some (v, s') := by cases w <;> exact hr
                    have hM := met_of_CW LK hme' (ih m' me' hme') l hdec' (as := .ref 0 :: (st.take me'.na).reverse) (nd_rev (ρ := id) hg3) hla hcl (fun q => absurd q hg0) I.1 (fun q => absurd q hg0)
                    have hB := backOf (R := cRoom P mi me) (p := p) (e := e) (below := below) (s := s₀) (args := args) (len := 3) (W := cats r) hM hZ hcode LK.1.2 hg1 hg2
                    have hdl : me'.na < st.length := by
                      have := congrArg List.length hst
                      simp at this; omega
                    have hsp : st = st.take me'.na ++ .ref 0 :: r := by rw [← hst, List.take_append_drop]
                    have hcell := I.1.1.cell
                    obtain ⟨cel, hc1, hc2⟩ := hcell
                    have key : ∃ (v' : Option Value) (U : State) (Lc : List Loc), Stand p l e (cRoom P mi me) s₀ m args below meth cd U (locs ++ Lc) (co mi c) (zo P mi c) ∧ QC P Z n0 adr m' c w s1 T.heap v' U.heap Lc ∧
                        Steps p.tables e below (T.setTop (mkF m pc L (st.map (va (adr + ·))))) (U.setTop (mkF m (pc + 3) L (v'.toList ++ r.map (va (adr + ·))))) := by
                      have hsm : st.map (va (adr + ·)) = ((st.take me'.na).reverse.map (va (adr + ·))).reverse ++ .ref adr :: r.map (va (adr + ·)) := by
                        conv => lhs; rw [hsp]
                        simp [va]
                      have hll : ∀ sig, parseMethodDescriptor (yOf P me').desc = some sig → ((st.take me'.na).reverse.map (va (adr + ·))).length = sig.parameters.length := lenOf hpar (by simp [hpl]; omega)
                      have hpre : ∀ vm₁, s₀.WarmedH vm₁ → ((Value.ref adr :: (st.take me'.na).reverse.map (va (adr + ·))).toArray = ((Value.ref 0 :: (st.take me'.na).reverse).map (va (adr + ·))).toArray ∧ (T.setVm vm₁).heap = T.heap ∧ co mi c + (cRoom P m' me').cells ≤ (cRoom P mi me).cells ∧ zo P mi c + (cRoom P m' me').slots ≤ (cRoom P mi me).slots) := fun vm₁ _ => by
                        refine ⟨by simp [va], rfl, ?_, ?_⟩
                        · simp only [co, cRoom, if_neg hg0]
                          have := I.1.2.2.2.2
                          split <;> omega
                        · simp only [zo, cRoom, if_neg hg0]
                          have := zs_le P.al c
                          split <;> omega
                      have hz1 : (cRoom P m' me').cells = 0 := by simp [cRoom, hg0]
                      have hz2 : (cRoom P m' me').slots = 0 := by simp [cRoom, hg0]
                      rcases w3 with w3 | ⟨w3, w4⟩
                      · obtain ⟨v', vm₁, ⟨U, lo, ce, sl⟩, -, X', ⟨Lc, hQ, l1, l2, l3⟩, stp⟩ := privCall X hx (y := yOf P me') hown (mv hZ w1) (mv hZ w2) (nF := nF) (mv hZ hnF) (Cond.privateMethod_at (mvP hZ w3 (args := args))) (mv hZ hcode) LK.2.2.2.2.2.2.2.2.2.2.2.1 hB (g := mkF m pc L (st.map (va (adr + ·)))) rfl hsize hc1 hc2 hll hsm (by show 2 * 0 + _ ≤ _; rw [cats_va]; omega) hd hpre
                        dsimp only [Pt.U, Pt.locs, Pt.cells, Pt.slots] at X' hQ l1 l2 l3 stp
                        subst l1 l2 l3
                        rw [hz1, hz2] at X'
                        exact ⟨v', U, Lc, X', hQ, stp⟩
                      · obtain ⟨cq, kq, qa, qb, qc⟩ := isOf hZ rfl I.1.1
                        obtain ⟨v', vm₁, ⟨U, lo, ce, sl⟩, -, X', ⟨Lc, hQ, l1, l2, l3⟩, stp⟩ := X.virtualBack hx (y := yOf P me') (z := yOf P me') hown (mv hZ w1) (mv hZ w3) (notFace_of_selects (args := #[]) (mv hZ w4)) (mv hZ w4) (mv hZ w2) LK.2.2.2.2.2.2.2.2.2.2.2.1 hB qa qc (g := mkF m pc L (st.map (va (adr + ·)))) rfl hsize (Steps.refl _) hll hsm (by show 2 * 0 + _ ≤ _; rw [cats_va]; omega) hd hpre
                        dsimp only [Pt.U, Pt.locs, Pt.cells, Pt.slots] at X' hQ l1 l2 l3 stp
                        subst l1 l2 l3
                        rw [hz1, hz2] at X'
                        exact ⟨v', U, Lc, X', hQ, stp⟩
                    obtain ⟨v', U, Lc, X', ⟨⟨rfl, hva⟩, hF', hH', hK', hS'⟩, stp⟩ := key
                    rw [if_neg hg0] at hH' hS'
                    refine Don.step (fun t q => stp.trans ?_) (ihk p l e s₀ m args below meth cd U (locs ++ Lc) h0 c _ ls (v'.toList ++ r) s1 v s' L hx hZ hown hnm hret hml hlk hs0 hdec hr' X' ⟨hH', I.2.1.app hF', I.2.2.1.trans hK', by rw [hS']; exact I.2.2.2⟩ hL hlen)
                    rw [List.map_append, hva] at q; exact q
                · rw [if_neg hla] at hr; cases hr
              · cases hr
            · cases hr
      -- the rest
      · split at hr
        · split at hr
          · cases hr
          · rename_i h1 hcf
            split at hr
            · rename_i w hw
              cases hr
              have hcf' : mi = 0 → c = P.al.length := fun q => Classical.byContradiction fun z => hcf ⟨q, z⟩
              have hA : HRep P Z T.heap adr (if mi = 0 then P.al.length else c) s := by
                by_cases q : mi = 0
                · rw [if_pos q, ← hcf' q]; exact I.1
                · rw [if_neg q]; exact I.1
              have hB : Array.size T.heap = if mi = 0 then adr + 1 + P.al.length else Array.size h0 := by
                rw [I.2.2.2]
                by_cases q : mi = 0
                · rw [if_pos q, if_pos q, ← hcf' q]
                · rw [if_neg q, if_neg q]
              have hC : co mi c ≤ (cRoom P mi me).cells := by
                simp only [co, cRoom]
                by_cases q : mi = 0
                · rw [if_pos q, if_pos q, ← hcf' q]; exact Nat.le_refl _
                · rw [if_neg q, if_neg q]; exact Nat.le_refl _
              have hD : zo P mi c ≤ (cRoom P mi me).slots := by
                simp only [zo, cRoom]
                by_cases q : mi = 0
                · rw [if_pos q, if_pos q]; exact zs_le _ _
                · rw [if_neg q, if_neg q]; exact Nat.le_refl _
              exact st_ret X hx hret hlk hw hd hn ⟨⟨rfl, cret_va hw⟩, I.2.1, hA, I.2.2.1, hB⟩ hC hD
            · cases hr
        · split at hr
          · rename_i pc' ls' st' hp
            obtain ⟨L', hL', hLs, st⟩ := pstep_sound X hx hp hd hn hL
            have hlen' : ls'.length = me.ml := by rw [← hL'.1, hLs, hL.1]; exact hlen
            exact Don.step st (ihk p l e s₀ m args below meth cd T locs h0 c _ ls' st' s v s' L' hx hZ hown hnm hret hml hlk hs0 hdec hr X I hL' hlen')
          · cases hr
end Jvm.LM

namespace Jvm.LM
open Sem ClassFile Op Lib Jvm.Stand Jvm.Free Jvm.LawKit Jvm.RoadKit
/-! the law's machine: several objects of the class, and one array of ints that it only reads -/
/-- class name, pool to own static method, pool to the class's method, pool index of the constructor, of the class, number of its fields, constants, methods, room: cells, slots -/
abbrev Lw := String × List (Nat × Nat) × List (Nat × Nat) × Nat × Nat × Nat × List (Nat × Value) × List (Nat × Me) × Nat × Nat
def Lw.nm (Q : Lw) : String := Q.1
def Lw.sx (Q : Lw) : List (Nat × Nat) := Q.2.1
def Lw.vx (Q : Lw) : List (Nat × Nat) := Q.2.2.1
def Lw.ci (Q : Lw) : Nat := Q.2.2.2.1
def Lw.cx (Q : Lw) : Nat := Q.2.2.2.2.1
def Lw.nf (Q : Lw) : Nat := Q.2.2.2.2.2.1
def Lw.kx (Q : Lw) : List (Nat × Value) := Q.2.2.2.2.2.2.1
def Lw.ms (Q : Lw) : List (Nat × Me) := Q.2.2.2.2.2.2.2.1
def Lw.rc (Q : Lw) : Nat := Q.2.2.2.2.2.2.2.2.1
def Lw.rs (Q : Lw) : Nat := Q.2.2.2.2.2.2.2.2.2
/-- the objects, how many are made, whether one more is being made -/
abbrev Wd := (Nat → St) × Nat × Bool
abbrev Sc := Option (Nat × (Nat → Int32))
abbrev Rw := Option (Option Value × Wd)
def nr : List Value → Bool
  | [] => true
  | .int _ :: r => nr r
  | .long _ :: r => nr r
  | _ => false
theorem nr_map {l : List Value} (h : nr l = true) (ρ : Nat → Nat) : l.map (va ρ) = l := by
  induction l with
  | nil => rfl
  | cons v r ih => cases v <;> first | (simp only [nr] at h; simp [va, ih h]; done) | (simp [nr] at h)
theorem nr_nd {l : List Value} (h : nr l = true) : nd l = true := by
  induction l with
  | nil => rfl
  | cons v r ih => cases v <;> first | (simp only [nr] at h; simp [nd, ih h]; done) | (simp [nr] at h)
def uo (w : Nat → St) (o : Nat) (s : St) : Nat → St := fun i => if i = o then s else w i
def lstep {α : Type} (P : Cl) (Q : Lw) (sc : Sc) (mi : Nat) (me : Me) (rt : Option Value → Wd → Option α) (cc : Nat → Nat → List Value → St → Rs) (cl : Nat → List Value → Wd → Rw) (k : Nat → Lv → List Value → Wd → Option α) (i : Instr) (pc : Nat) (ls : Lv) (st : List Value) (w : Wd) : Option α :=
  match i with
  | .iaload => match sc, st with
    | some (n, g), .int j :: .ref 0 :: r => if inb n j then k (pc + 1) ls (.int (g (ix j)) :: r) w else none
    | _, _ => none
  | .arraylength => match sc, st with
    | some (n, _), .ref 0 :: r => k (pc + 1) ls (.int (Int32.ofNat n) :: r) w
    | _, _ => none
  | .ldc x => match asc Q.kx x with | some (.int z) => k (pc + 2) ls (.int z :: st) w | _ => none
  | .ldc2_w x => match asc Q.kx x with | some (.long z) => k (pc + 3) ls (.long z :: st) w | _ => none
  | .new x => if mi = 0 ∧ x = Q.cx ∧ w.2.2 = false ∧ (w.2.1 + 1) * (P.al.length + 1) ≤ Q.rc ∧ (w.2.1 + 1) * (Q.nf + zs P.al P.al.length) ≤ Q.rs then
      k (pc + 3) ls (.ref (w.2.1 + 1) :: st) (uo w.1 w.2.1 s0, w.2.1, true) else none
  | .invokespecial x => match asc P.ms 0 with
    | none => none
    | some me' => match st.drop me'.na with
      | .ref (o + 1) :: r => if x = Q.ci ∧ mi = 0 ∧ o = w.2.1 ∧ w.2.2 = true ∧ me'.rf + 1 ≤ me.rf ∧ cats r + (me'.ml + 11) + me'.rl ≤ me.rl ∧ nr (st.take me'.na) = true ∧ (w.2.1 + 1) * (P.al.length + 1) ≤ Q.rc ∧ (w.2.1 + 1) * (Q.nf + zs P.al P.al.length) ≤ Q.rs then
          (match cc 0 0 (.ref 0 :: (st.take me'.na).reverse) (w.1 o) with
           | some (none, s') => k (pc + 3) ls r (uo w.1 o s', w.2.1 + 1, false)
           | _ => none) else none
      | _ => none
  | .invokevirtual x => match asc Q.vx x with
    | none => none
    | some m' => match asc P.ms m' with
      | none => none
      | some me' => match st.drop me'.na with
        | .ref (o + 1) :: r => if m' ≠ 0 ∧ o < w.2.1 ∧ me'.rf + 1 ≤ me.rf ∧ cats r + (me'.ml + 11) + me'.rl ≤ me.rl ∧ nr (st.take me'.na) = true then
            (match cc m' P.al.length (.ref 0 :: (st.take me'.na).reverse) (w.1 o) with
             | some (none, s') => k (pc + 3) ls r (uo w.1 o s', w.2.1, w.2.2)
             | some (some v, s') => k (pc + 3) ls (v :: r) (uo w.1 o s', w.2.1, w.2.2)
             | none => none) else none
        | _ => none
  | .invokestatic x => match asc Q.sx x with
    | none => none
    | some m' => match asc Q.ms m' with
      | none => none
      | some me' => if m' ≠ 0 ∧ me'.na ≤ st.length ∧ me'.rf + 1 ≤ me.rf ∧ cats (st.drop me'.na) + (me'.ml + 11) + me'.rl ≤ me.rl ∧ nd (st.take me'.na) = true then
          (match cl m' (st.take me'.na).reverse w with
           | some (none, w') => k (pc + 3) ls (st.drop me'.na) w'
           | some (some v, w') => k (pc + 3) ls (v :: st.drop me'.na) w'
           | none => none) else none
  | i => if isRet i = true then (match cret me st i with | some v => rt v w | none => none)
    else match pstep i pc ls st with | some (pc', ls', st') => k pc' ls' st' w | none => none
def lexec (P : Cl) (Q : Lw) (sc : Sc) : Nat → Nat → Me → Nat → Lv → List Value → Wd → Rw
  | 0, _, _, _, _, _, _ => none
  | f + 1, mi, me, pc, ls, st, w => match fetch me.cd pc with
    | none => none
    | some (i, _) => lstep P Q sc mi me (fun v w => some (v, w)) (ccall P f) (fun m' as w => match asc Q.ms m' with | some me' => (if (layA as).length ≤ me'.ml then lexec P Q sc f m' me' 0 (lay as me'.ml) [] w else none) | none => none) (lexec P Q sc f mi me) i pc ls st w
theorem lexec_cnt {P : Cl} {Q : Lw} {sc : Sc} : ∀ f mi me pc ls st w v w', mi ≠ 0 → lexec P Q sc f mi me pc ls st w = some (v, w') → w'.2 = w.2 := by
  intro f
  induction f with
  | zero => intro mi me pc ls st w v w' _ h; cases h
  | succ f ih =>
    intro mi me pc ls st w v w' h0 h
    simp only [lexec] at h
    split at h
    · cases h
    · unfold lstep at h
      split at h
      · split at h
        · split at h
          · exact ih _ _ _ _ _ _ _ _ h0 h
          · cases h
        · cases h
      · split at h
        · exact ih _ _ _ _ _ _ _ _ h0 h
        · cases h
      · split at h
        · exact ih _ _ _ _ _ _ _ _ h0 h
        · cases h
      · split at h
        · exact ih _ _ _ _ _ _ _ _ h0 h
        · cases h
      · split at h
        · rename_i q; exact absurd q.1 h0
        · cases h
      · split at h
        · cases h
        · split at h
          · split at h
            · rename_i q; exact absurd q.2.1 h0
            · cases h
          · cases h
      · split at h
        · cases h
        · split at h
          · cases h
          · split at h
            · split at h
              · split at h
                · exact (ih _ _ _ _ _ _ _ _ h0 h).trans rfl
                · exact (ih _ _ _ _ _ _ _ _ h0 h).trans rfl
                · cases h
              · cases h
            · cases h
      · split at h
        · cases h
        · split at h
          · cases h
          · rename_i me' hme'
            split at h
            · rename_i hg
              dsimp only at h
              rw [hme'] at h
              dsimp only at h
              split at h
              · rename_i w2 hc
                split at hc
                · exact (ih _ _ _ _ _ _ _ _ h0 h).trans (ih _ _ _ _ _ _ _ _ hg.1 hc)
                · cases hc
              · rename_i u w2 hc
                split at hc
                · exact (ih _ _ _ _ _ _ _ _ h0 h).trans (ih _ _ _ _ _ _ _ _ hg.1 hc)
                · cases hc
              · cases h
            · cases h
      · split at h
        · split at h
          · cases h; rfl
          · cases h
        · split at h
          · exact ih _ _ _ _ _ _ _ _ h0 h
          · cases h
def lcall (P : Cl) (Q : Lw) (sc : Sc) (f m' : Nat) (as : List Value) (w : Wd) : Rw := match asc Q.ms m' with | some me' => (if (layA as).length ≤ me'.ml then lexec P Q sc f m' me' 0 (lay as me'.ml) [] w else none) | none => none
def zOf (Q : Lw) (me : Me) : MethodName := ⟨Q.nm, me.nm, me.ds⟩
def LinkL (P : Cl) (Q : Lw) (Z : State) (a0 : Array Value) : Prop :=
  ((Cond.classLink Q.nm Q.cx P.nm).before a0 Z = true ∧ (Cond.instantiable P.nm Q.nf).before a0 Z = true) ∧
  (∀ me, asc P.ms 0 = some me → (Cond.methodLink Q.nm Q.ci (yOf P me)).before a0 Z = true ∧ (Cond.instanceMethod (yOf P me)).before a0 Z = true ∧ me.rt = 0) ∧
  (∀ x m', asc Q.vx x = some m' → ∀ me, asc P.ms m' = some me → (Cond.methodLink Q.nm x (yOf P me)).before a0 Z = true ∧ (Cond.declares (yOf P me)).before a0 Z = true ∧ (Cond.instanceMethod (yOf P me)).before a0 Z = true ∧ (Cond.selects P.nm (yOf P me) (yOf P me)).before a0 Z = true) ∧
  (∀ x m', asc Q.sx x = some m' → ∀ me, asc Q.ms m' = some me → (Cond.methodLink Q.nm x (zOf Q me)).before a0 Z = true ∧ (Cond.static (zOf Q me)).before a0 Z = true ∧ (Cond.initialized Q.nm).before a0 Z = true) ∧
  (∀ x v, asc Q.kx x = some v → match v with
    | .int z => (Cond.constant Q.nm x z).before a0 Z = true
    | .long z => (Cond.constantLong Q.nm x z).before a0 Z = true
    | _ => True) ∧
  (∀ mi me, asc Q.ms mi = some me → mi ≠ 0 → ∃ (bytes : ByteArray) (ps : List FieldType), (Cond.code (zOf Q me) bytes me.ml (retOf me.rt)).before a0 Z = true ∧
    (∀ pc i n, fetch me.cd pc = some (i, n) → decode bytes pc = .ok (i, n) ∧ (isSw i = true ∨ n = ilen i)) ∧ parseMethodDescriptor me.ds = some ⟨ps, retOf me.rt⟩ ∧ ps.length = me.na) ∧
  plainName Q.nm = true ∧ (Q.nm ≠ "java/lang/invoke/MethodHandle" ∧ Q.nm ≠ "java/lang/invoke/VarHandle")
def rho (a n0 K : Nat) : Nat → Nat
  | 0 => a
  | o + 1 => n0 + o * K
def SRep (Z : State) (h : Heap) (a n0 : Nat) (sc : Sc) : Prop :=
  match sc with
  | none => True
  | some (n, g) => a < n0 ∧ ∃ cl : Cell, Arr Z h a cl .int ∧ cl.slots.size = n ∧ ∀ i, i < n → cl.slots[i]? = some (.int (g i))
def LRep (P : Cl) (Z : State) (h : Heap) (a n0 : Nat) (sc : Sc) (w : Wd) : Prop :=
  SRep Z h a n0 sc ∧ (∀ o, o < w.2.1 → HRep P Z h (n0 + o * (P.al.length + 1)) P.al.length (w.1 o)) ∧
  (w.2.2 = true → HRep P Z h (n0 + w.2.1 * (P.al.length + 1)) 0 (w.1 w.2.1)) ∧ h.size = n0 + w.2.1 * (P.al.length + 1) + (if w.2.2 = true then 1 else 0)
def lRoom (Q : Lw) (mi : Nat) (me : Me) : Room := { frames := me.rf, cells := if mi = 0 then Q.rc else 0, slots := if mi = 0 then Q.rs else 0, locals := me.rl }
def QL (P : Cl) (Z : State) (a n0 : Nat) (sc : Sc) (v : Option Value) (w' : Wd) (u : Option Value) (h : Heap) (L : List Loc) : Prop :=
  (u = v ∧ ∀ ρ, u.toList.map (va ρ) = u.toList) ∧ Fr n0 L ∧ LRep P Z h a n0 sc w'
def lco (P : Cl) (mi : Nat) (w : Wd) : Nat := if mi = 0 then w.2.1 * (P.al.length + 1) + (if w.2.2 = true then 1 else 0) else 0
def lzo (P : Cl) (Q : Lw) (mi : Nat) (w : Wd) : Nat := if mi = 0 then w.2.1 * (Q.nf + zs P.al P.al.length) + (if w.2.2 = true then Q.nf else 0) else 0
def LW (P : Cl) (Q : Lw) (sc : Sc) (Z : State) (a n0 f mi : Nat) (me : Me) : Prop :=
  ∀ (p : Program) (l : Launch) (e : Env) (s₀ : State) (m : MethodId) (args : Array Value) (below : List Frame) (meth : Method) (cd : Code) (T : State) (locs : List Loc) (pc : Nat) (ls : Lv) (st : List Value) (w : Wd) (v : Option Value) (w' : Wd) (L : Array Slot),
    p.tables.exec = Jvm.exec → Z.Warmed39 s₀.vm → s₀.vm.findClass Q.nm = some m.cls → meth.sig.returnType = retOf me.rt → cd.maxLocals = me.ml → meth.locks = false → (mi = 0 → s₀.heap.size = n0) →
    (∀ pc i n, fetch me.cd pc = some (i, n) → decode cd.code pc = .ok (i, n) ∧ (isSw i = true ∨ n = ilen i)) →
    lexec P Q sc f mi me pc ls st w = some (v, w') →
    Stand p l e (lRoom Q mi me) s₀ m args below meth cd T locs (lco P mi w) (lzo P Q mi w) → w.2.1 * (P.al.length + 1) + (if w.2.2 = true then 1 else 0) ≤ (lRoom Q 0 me).cells → w.2.1 * (Q.nf + zs P.al P.al.length) + (if w.2.2 = true then Q.nf else 0) ≤ (lRoom Q 0 me).slots →
    LRep P Z T.heap a n0 sc w → Fr n0 locs → LR (rho a n0 (P.al.length + 1)) ls L → ls.length = me.ml →
    Don p e below s₀ (lRoom Q mi me) (QL P Z a n0 sc v w') (T.setTop (mkF m pc L (st.map (va (rho a n0 (P.al.length + 1))))))
theorem met_of_LW {P : Cl} {Q : Lw} {sc : Sc} {Z : State} {a0 : Array Value} (LL : LinkL P Q Z a0) {a n0 f mi : Nat} {me : Me} (hW : LW P Q sc Z a n0 f mi me) (hmi : mi ≠ 0) (l : Launch) {bytes : ByteArray}
    (hdec : ∀ pc i n, fetch me.cd pc = some (i, n) → decode bytes pc = .ok (i, n) ∧ (isSw i = true ∨ n = ilen i))
    {as : List Value} (hd : ∀ v ∈ as, ∀ x, v ≠ .double x) (hlen : (layA as).length ≤ me.ml) {w w' : Wd} {v : Option Value} {h : Heap} (hr : lexec P Q sc f mi me 0 (lay as me.ml) [] w = some (v, w'))
    (hc1 : w.2.1 * (P.al.length + 1) + (if w.2.2 = true then 1 else 0) ≤ Q.rc) (hc2 : w.2.1 * (Q.nf + zs P.al P.al.length) + (if w.2.2 = true then Q.nf else 0) ≤ Q.rs)
    (H : LRep P Z h a n0 sc w) :
    MetFree l (zOf Q me) (head1 [Cond.code (zOf Q me) bytes me.ml (retOf me.rt)] (lRoom Q mi me)) (fun b U => b = (as.map (va (rho a n0 (P.al.length + 1)))).toArray ∧ Z.Warmed39 U.vm ∧ U.heap = h) (fun _ _ _ _ _ => True)
      (fun _ U o U' => ∃ u L, o = .returned u ∧ QL P Z a n0 sc v w' u U'.heap L ∧ FrameEnd U o U' L (lRoom Q mi me).cells (lRoom Q mi me).slots) := by
  refine MetFree.of_bodySF (plainFor_of_name LL.2.2.2.2.2.2.1) hisR ?_
  intro p e s₀ m args below meth cd s₁ Bd hml hP hK
  obtain ⟨rfl, hZ, hh⟩ := hP
  have e0 : s₁.heap = h := by rw [← hh, Bd.state]; rfl
  have X0 : Stand p l e (lRoom Q mi me) s₀ m _ below meth cd s₁ [] 0 0 := Stand.of_body Bd
  have hown : s₀.vm.findClass Q.nm = some m.cls := findClass_of_methodNamed Bd.named
  have hk0 : lco P mi w = 0 := by simp [lco, hmi]
  have hz0 : lzo P Q mi w = 0 := by simp [lzo, hmi]
  have D := hW p l e s₀ m _ below meth cd s₁ [] 0 (lay as me.ml) [] w v w' _ Bd.exec hZ hown Bd.returns hml Bd.notSynchronized (fun q => absurd q hmi)
    (fun pc i n q => by rw [Bd.bytes]; exact hdec pc i n q) hr (by rw [hk0, hz0]; exact X0) (by simpa [lRoom] using hc1) (by simpa [lRoom] using hc2) (by rw [e0]; exact H) (Fr.nil n0) (lay_LR hd hlen) (lay_len hlen)
  obtain ⟨s₂, o, a1, a2, a3, u, L, a4, a5, a6⟩ := D
  exact ⟨s₂, o, a1, a2, a3, u, L, a4, a5, a6⟩
end Jvm.LM

namespace Jvm.LM
open Sem ClassFile Op Lib Jvm.Stand Jvm.Free Jvm.LawKit Jvm.RoadKit
theorem rng {a b K : Nat} (h : a < b) : a * K + K ≤ b * K := by
  have := Nat.mul_le_mul_right K (show a + 1 ≤ b from h)
  rw [Nat.succ_mul] at this; exact this
theorem SRep.congr {Z : State} {h h' : Heap} {a n0 : Nat} {sc : Sc} (H : SRep Z h a n0 sc) (e : ∀ x, x < n0 → h'[x]? = h[x]?) : SRep Z h' a n0 sc := by
  unfold SRep at H ⊢
  split
  · trivial
  · obtain ⟨h1, cl, ⟨q1, q2⟩, q3⟩ := H
    exact ⟨h1, cl, ⟨by rw [e a h1]; exact q1, q2⟩, q3⟩
/-- one object has moved, the others stand -/
theorem LRep.call {P : Cl} {Z : State} {h h' : Heap} {a n0 o : Nat} {sc : Sc} {w : Wd} {s' : St} (H : LRep P Z h a n0 sc w) (ho : o < w.2.1) (K : Kp h h' (n0 + o * (P.al.length + 1)) P.al.length) (hs : h'.size = h.size) (H' : HRep P Z h' (n0 + o * (P.al.length + 1)) P.al.length s') :
    LRep P Z h' a n0 sc (uo w.1 o s', w.2.1, w.2.2) := by
  obtain ⟨h1, h2, h3, h4⟩ := H
  refine ⟨h1.congr fun x hx => K x (Or.inl (by omega)), fun o' ho' => ?_, fun q => ?_, by rw [hs]; exact h4⟩
  · by_cases e : o' = o
    · subst e; simpa [uo] using H'
    · have := (h2 o' ho').congr (h' := h') fun x hx1 hx2 => K x (by
        rcases Nat.lt_or_gt_of_ne e with q | q
        · have := rng (K := P.al.length + 1) q; omega
        · have := rng (K := P.al.length + 1) q; omega)
      simpa [uo, e] using this
  · have e : w.2.1 ≠ o := by omega
    have := (h3 q).congr (h' := h') fun x hx1 hx2 => K x (by have := rng (K := P.al.length + 1) ho; omega)
    simpa [uo, e] using this
theorem ar1 {x k r y : Nat} (e : y = x + (k + 1)) (h : y ≤ r) : x + 1 + k ≤ r := by omega
theorem ar3 {x k y : Nat} (h : y = x + (k + 1)) : y + 0 = x + 1 + k := by omega
theorem ar4 {x f z y : Nat} (h : y = x + (f + z)) : y + 0 = x + f + z := by omega
theorem ar5 {x f z r y : Nat} (e : y = x + (f + z)) (h : y ≤ r) : x + f + z ≤ r := by omega
theorem ar6 {n x k y : Nat} (h : y = x + (k + 1)) : n + x + 1 + k = n + y + 0 := by omega
theorem lwalk {P : Cl} {Q : Lw} {sc : Sc} {Z : State} {a0 : Array Value} (LK : LinkC P Z a0) (LL : LinkL P Q Z a0) {a n0 : Nat} : ∀ f mi me, asc Q.ms mi = some me → LW P Q sc Z a n0 f mi me := by
  intro f
  induction f with
  | zero =>
    intro mi me hme p l e s₀ m args below meth cd T locs pc ls st w v w' L hx hZ hown hret hml hlk hs0 hdec hr
    cases hr
  | succ f ih =>
    intro mi me hme p l e s₀ m args below meth cd T locs pc ls st w v w' L hx hZ hown hret hml hlk hs0 hdec hr X hc1 hc2 I hFr hL hlen
    simp only [lexec] at hr
    split at hr
    · cases hr
    · rename_i i n hf
      obtain ⟨hd, hn⟩ := hdec pc i n hf
      have ihk := ih mi me hme
      have hsize : L.size = cd.maxLocals := by rw [hL.1, hlen, hml]
      unfold lstep at hr
      split at hr
      -- iaload
      · obtain rfl := hn.resolve_left Bool.false_ne_true
        split at hr
        · rename_i N g j r
          split at hr
          · rename_i hin
            obtain ⟨ha, cl, A, hN, hv⟩ : SRep Z T.heap a n0 (some (N, g)) := I.1
            refine Don.step (fun t q => ?_) (ihk p l e s₀ m args below meth cd T locs _ ls (.int (g (ix j)) :: r) w v w' L hx hZ hown hret hml hlk hs0 hdec hr X hc1 hc2 I hFr hL hlen)
            exact X.iaload hx A.1 (State.isArrayOf_alike hZ.alike A.2.1) A.2.2 (by rw [hN]; exact inb_not hin) (hv (ix j) (inb_ix hin)) (g := mkF m pc L (.int j :: .ref a :: r.map (va (rho a n0 (P.al.length + 1))))) rfl rfl hd t q
          · cases hr
        · cases hr
      -- arraylength
      · obtain rfl := hn.resolve_left Bool.false_ne_true
        split at hr
        · rename_i N g r
          obtain ⟨ha, cl, A, hN, hv⟩ : SRep Z T.heap a n0 (some (N, g)) := I.1
          refine Don.step (fun t q => ?_) (ihk p l e s₀ m args below meth cd T locs _ ls (.int (Int32.ofNat N) :: r) w v w' L hx hZ hown hret hml hlk hs0 hdec hr X hc1 hc2 I hFr hL hlen)
          exact X.arraylength hx A.1 (State.isArrayOf_alike hZ.alike A.2.1) (g := mkF m pc L (.ref a :: r.map (va (rho a n0 (P.al.length + 1))))) rfl rfl hd t (by rw [hN]; exact q)
        · cases hr
      -- constants
      · obtain rfl := hn.resolve_left Bool.false_ne_true
        split at hr
        · rename_i z hg
          exact Don.step (fun t q => X.ldcI hx hown (mv hZ (LL.2.2.2.2.1 _ _ hg)) (g := mkF m pc L (st.map (va (rho a n0 (P.al.length + 1))))) rfl hd q) (ihk p l e s₀ m args below meth cd T locs _ ls (.int z :: st) w v w' L hx hZ hown hret hml hlk hs0 hdec hr X hc1 hc2 I hFr hL hlen)
        · cases hr
      · obtain rfl := hn.resolve_left Bool.false_ne_true
        split at hr
        · rename_i z hg
          exact Don.step (fun t q => X.ldc2J hx hown (mv hZ (LL.2.2.2.2.1 _ _ hg)) (g := mkF m pc L (st.map (va (rho a n0 (P.al.length + 1))))) rfl hd q) (ihk p l e s₀ m args below meth cd T locs _ ls (.long z :: st) w v w' L hx hZ hown hret hml hlk hs0 hdec hr X hc1 hc2 I hFr hL hlen)
        · cases hr
      -- new
      · obtain rfl := hn.resolve_left Bool.false_ne_true
        split at hr
        · rename_i hg
          obtain ⟨rfl, rfl, hp, hg1, hg2⟩ := hg
          obtain ⟨os, cnt, pend⟩ := w
          dsimp only at hp hg1 hg2 hr
          subst hp
          have hk : lco P 0 (os, cnt, false) = cnt * (P.al.length + 1) := by simp [lco]
          have hz : lzo P Q 0 (os, cnt, false) = cnt * (Q.nf + zs P.al P.al.length) := by simp [lzo]
          have m1 : (cnt + 1) * (P.al.length + 1) = cnt * (P.al.length + 1) + (P.al.length + 1) := Nat.succ_mul ..
          have m2 : (cnt + 1) * (Q.nf + zs P.al P.al.length) = cnt * (Q.nf + zs P.al P.al.length) + (Q.nf + zs P.al P.al.length) := Nat.succ_mul ..
          rw [hk, hz] at X
          obtain ⟨T', h', X', q1, E, A, D, -, st1⟩ := newO X hx hZ hown LL.1.1 LL.1.2 LK.1.2 rfl (g := mkF m pc L (st.map (va (rho a n0 (P.al.length + 1))))) rfl hd (by simp only [lRoom, if_true]; omega) (by simp only [lRoom, if_true]; omega)
          obtain ⟨i1, i2, i3, i4⟩ := I
          have hsz : T.heap.size = n0 + cnt * (P.al.length + 1) := by simpa using i4
          have hsz' : h'.size = n0 + cnt * (P.al.length + 1) + 1 := by
            have g1 : T'.heap.size ≤ s₀.heap.size + (cnt * (P.al.length + 1) + 1) := X'.heapSize
            have g2 : T.heap.size < Array.size h' := A.lt
            rw [q1, hs0 rfl] at g1
            rw [hsz] at g2
            omega
          have same : ∀ x, x < T.heap.size → h'[x]? = T.heap[x]? := fun x hx => by
            obtain ⟨cc, hcc⟩ : ∃ cc, T.heap[x]? = some cc := ⟨T.heap[x], Array.getElem?_eq_getElem hx⟩
            rw [hcc]; exact E.2 _ _ hcc
          have I' : LRep P Z T'.heap a n0 sc (uo os cnt s0, cnt, true) := by
            rw [q1]
            refine ⟨i1.congr fun x hx => same x (by omega), fun o ho => ?_, fun _ => ?_, by simpa using hsz'⟩
            · have := (i2 o ho).congr (h' := h') fun x hx1 hx2 => same x (by have := rng (K := P.al.length + 1) (show o < cnt from ho); omega)
              simpa [uo, show o ≠ cnt from Nat.ne_of_lt ho] using this
            · simp only [uo, if_true]
              rw [hsz] at A D
              refine ⟨A, fun k fe hk => ?_, fun j tt N hj hc => absurd hc (Nat.not_lt_zero _), fun j i hj => ⟨rfl, rfl⟩, Nat.zero_le _⟩
              have q := D (laid_of LK hk) (LK.2.2.2.1 k fe hk)
              have e2 : Fval (n0 + cnt * (P.al.length + 1)) 0 s0 k fe = defaultValue (fkTy P fe.2.2.1) := by
                simp only [Fval]; split
                · rename_i e3; rw [e3]; rfl
                · rename_i e3; rw [e3]; rfl
                · rename_i e3; rw [e3]; rfl
                · rename_i e3; rw [e3]; rfl
              rw [e2]; exact q
          refine Don.step (fun t q => st1 t ?_) (ihk p l e s₀ m args below meth cd T' locs _ ls (.ref (cnt + 1) :: st) _ v w' L hx hZ hown hret hml hlk hs0 hdec hr (by simpa [lco, lzo] using X') (by simp only [lRoom, if_true]; omega) (by simp only [lRoom, if_true]; omega) I' hFr hL hlen)
          rw [hsz]; exact q
        · cases hr
      -- the constructor
      · obtain rfl := hn.resolve_left Bool.false_ne_true
        split at hr
        · cases hr
        · rename_i me' hme'
          split at hr
          · rename_i o r hst
            split at hr
            · rename_i hg
              obtain ⟨rfl, rfl, hgo, hp, hg1, hg2, hg3, hg4, hg5⟩ := hg
              obtain ⟨os, cnt, pend⟩ := w
              dsimp only at hgo hp hg1 hg2 hr hg4 hg5
              subst hp hgo
              obtain ⟨bytes, ps, hcode, hdec', hpar, hpl⟩ := LK.2.2.2.2.2.2.2.2.1 0 me' hme'
              obtain ⟨w1, w2, hrt⟩ := LL.2.1 me' hme'
              have hcode' := hcode
              rw [hrt] at hcode'
              have hini := LK.2.2.2.2.2.2.2.2.2.2.2.2 me' hme'
              have m1 : (o + 1) * (P.al.length + 1) = o * (P.al.length + 1) + (P.al.length + 1) := Nat.succ_mul ..
              have m2 : (o + 1) * (Q.nf + zs P.al P.al.length) = o * (Q.nf + zs P.al P.al.length) + (Q.nf + zs P.al P.al.length) := Nat.succ_mul ..
              simp only [ccall, hme'] at hr
              by_cases hla : (layA (Value.ref 0 :: (st.take me'.na).reverse)).length ≤ me'.ml
              · rw [if_pos hla] at hr
                cases hcl : cexec P f 0 me' 0 0 (lay (.ref 0 :: (st.take me'.na).reverse) me'.ml) [] (os o) with
                | none => rw [hcl] at hr; cases hr
                | some vs =>
                  obtain ⟨u, s1⟩ := vs
                  rw [hcl] at hr
                  cases u with
                  | some u => cases hr
                  | none =>
                    dsimp only at hr
                    obtain ⟨i1, i2, i3, i4⟩ := I
                    have hsz : T.heap.size = n0 + o * (P.al.length + 1) + 1 := by simpa using i4
                    have hM := met_of_CW LK hme' (cwalk LK (n0 := n0) (adr := n0 + o * (P.al.length + 1)) (Nat.le_add_right _ _) f 0 me' hme') l hdec' (as := .ref 0 :: (st.take me'.na).reverse) (nd_rev (ρ := id) (nr_nd hg3)) hla hcl (fun _ => rfl) (i3 rfl) (fun _ => hsz)
                    have hB := backOf (R := lRoom Q 0 me) (p := p) (e := e) (below := below) (s := s₀) (args := args) (len := 3) (W := cats r) hM hZ hcode LK.1.2 hg1 hg2
                    have hdl : me'.na < st.length := by
                      have := congrArg List.length hst
                      simp at this; omega
                    have hsp : st = st.take me'.na ++ .ref (o + 1) :: r := by rw [← hst, List.take_append_drop]
                    have hrv : ∀ ρ : Nat → Nat, (st.take me'.na).reverse.map (va ρ) = (st.take me'.na).reverse := fun ρ => by rw [List.map_reverse, nr_map hg3]
                    have hsm : st.map (va (rho a n0 (P.al.length + 1))) = ((st.take me'.na).reverse).reverse ++ .ref (n0 + o * (P.al.length + 1)) :: r.map (va (rho a n0 (P.al.length + 1))) := by
                      conv => lhs; rw [hsp]
                      rw [List.map_append, nr_map hg3]; simp [va, rho]
                    have hll : ∀ sig, parseMethodDescriptor (yOf P me').desc = some sig → ((st.take me'.na).reverse).length = sig.parameters.length := lenOf hpar (by simp [hpl]; omega)
                    have hk : lco P 0 (os, o, true) = o * (P.al.length + 1) + 1 := by simp [lco]
                    have hz : lzo P Q 0 (os, o, true) = o * (Q.nf + zs P.al P.al.length) + Q.nf := by simp [lzo]
                    rw [hk, hz] at X
                    have hpre : ∀ vm₁, s₀.WarmedH vm₁ → ((Value.ref (n0 + o * (P.al.length + 1)) :: (st.take me'.na).reverse).toArray = ((Value.ref 0 :: (st.take me'.na).reverse).map (va ((n0 + o * (P.al.length + 1)) + ·))).toArray ∧ (T.setVm vm₁).heap = T.heap ∧ o * (P.al.length + 1) + 1 + (cRoom P 0 me').cells ≤ (lRoom Q 0 me).cells ∧ o * (Q.nf + zs P.al P.al.length) + Q.nf + (cRoom P 0 me').slots ≤ (lRoom Q 0 me).slots) := fun vm₁ _ => by
                      refine ⟨by rw [List.map_cons, hrv]; rfl, rfl, ?_, ?_⟩
                      · show o * (P.al.length + 1) + 1 + P.al.length ≤ Q.rc
                        exact ar1 m1 hg4
                      · show o * (Q.nf + zs P.al P.al.length) + Q.nf + zs P.al P.al.length ≤ Q.rs
                        exact ar5 m2 hg5
                    obtain ⟨v', vm₁, ⟨U, lo, ce, sl⟩, -, X', ⟨Lc, hQ, l1, l2, l3⟩, stp⟩ := X.specialBack hx (y := yOf P me') hini hown (mv hZ w1) (mv hZ w2) (mv hZ hcode') LK.2.2.2.2.2.2.2.2.2.2.2.1 hB (g := mkF m pc L (st.map (va (rho a n0 (P.al.length + 1))))) rfl hsize (Steps.refl _) hll hsm (by show 2 * 0 + _ ≤ _; rw [cats_va]; omega) hd hpre
                    dsimp only [Pt.U, Pt.locs, Pt.cells, Pt.slots] at X' hQ l1 l2 l3 stp
                    subst l1 l2 l3
                    obtain ⟨⟨rfl, -⟩, hF', hH', hK', hS'⟩ := hQ
                    rw [if_pos rfl] at hH' hS'
                    have I' : LRep P Z U.heap a n0 sc (uo os o s1, o + 1, false) := by
                      refine ⟨i1.congr fun x hx => hK' x (Or.inl (by omega)), fun o' ho' => ?_, fun q => by simp at q, by rw [hS']; show n0 + o * (P.al.length + 1) + 1 + P.al.length = n0 + (o + 1) * (P.al.length + 1) + 0; exact ar6 m1⟩
                      by_cases e2 : o' = o
                      · subst e2; simpa [uo] using hH'
                      · have ho2 : o' < o := by have : o' < o + 1 := ho'; omega
                        have := (i2 o' ho2).congr (h' := U.heap) fun x hx1 hx2 => hK' x (by have := rng (K := P.al.length + 1) ho2; omega)
                        simpa [uo, e2] using this
                    refine Don.step (fun t q => stp.trans q) (ihk p l e s₀ m args below meth cd U (locs ++ Lc) _ ls r _ v w' L hx hZ hown hret hml hlk hs0 hdec hr ?_ (by show (o + 1) * (P.al.length + 1) + 0 ≤ Q.rc; omega) (by show (o + 1) * (Q.nf + zs P.al P.al.length) + 0 ≤ Q.rs; omega) I' (hFr.app hF') hL hlen)
                    have h1 : lco P 0 (uo os o s1, o + 1, false) = o * (P.al.length + 1) + 1 + (cRoom P 0 me').cells := by
                      show (o + 1) * (P.al.length + 1) + 0 = o * (P.al.length + 1) + 1 + P.al.length
                      exact ar3 m1
                    have h2 : lzo P Q 0 (uo os o s1, o + 1, false) = o * (Q.nf + zs P.al P.al.length) + Q.nf + (cRoom P 0 me').slots := by
                      show (o + 1) * (Q.nf + zs P.al P.al.length) + 0 = o * (Q.nf + zs P.al P.al.length) + Q.nf + zs P.al P.al.length
                      exact ar4 m2
                    rw [h1, h2]; exact X'
              · rw [if_neg hla] at hr; cases hr
            · cases hr
          · cases hr
      -- a method of the class
      · obtain rfl := hn.resolve_left Bool.false_ne_true
        split at hr
        · cases hr
        · rename_i m' hm'
          split at hr
          · cases hr
          · rename_i me' hme'
            split at hr
            · rename_i o r hst
              split at hr
              · rename_i hg
                obtain ⟨hg0, hgo, hg1, hg2, hg3⟩ := hg
                obtain ⟨bytes, ps, hcode, hdec', hpar, hpl⟩ := LK.2.2.2.2.2.2.2.2.1 m' me' hme'
                obtain ⟨w1, w2, w3, w4⟩ := LL.2.2.1 _ _ hm' me' hme'
                simp only [ccall, hme'] at hr
                by_cases hla : (layA (Value.ref 0 :: (st.take me'.na).reverse)).length ≤ me'.ml
                · rw [if_pos hla] at hr
                  cases hcl : cexec P f m' me' P.al.length 0 (lay (.ref 0 :: (st.take me'.na).reverse) me'.ml) [] (w.1 o) with
                  | none => rw [hcl] at hr; cases hr
                  | some vs =>
                    obtain ⟨u, s1⟩ := vs
                    rw [hcl] at hr
                    have hr' : lexec P Q sc f mi me (pc + 3) ls (u.toList ++ r) (uo w.1 o s1, w.2.1, w.2.2) = some (v, w') := by cases u <;> exact hr
                    have hM := met_of_CW LK hme' (cwalk LK (n0 := n0) (adr := n0 + o * (P.al.length + 1)) (Nat.le_add_right _ _) f m' me' hme') l hdec' (as := .ref 0 :: (st.take me'.na).reverse) (nd_rev (ρ := id) (nr_nd hg3)) hla hcl (fun q => absurd q hg0) (I.2.1 o hgo) (fun q => absurd q hg0)
                    have hB := backOf (R := lRoom Q mi me) (p := p) (e := e) (below := below) (s := s₀) (args := args) (len := 3) (W := cats r) hM hZ hcode LK.1.2 hg1 hg2
                    have hdl : me'.na < st.length := by
                      have := congrArg List.length hst
                      simp at this; omega
                    have hsp : st = st.take me'.na ++ .ref (o + 1) :: r := by rw [← hst, List.take_append_drop]
                    have hrv : ∀ ρ : Nat → Nat, (st.take me'.na).reverse.map (va ρ) = (st.take me'.na).reverse := fun ρ => by rw [List.map_reverse, nr_map hg3]
                    have hsm : st.map (va (rho a n0 (P.al.length + 1))) = ((st.take me'.na).reverse).reverse ++ .ref (n0 + o * (P.al.length + 1)) :: r.map (va (rho a n0 (P.al.length + 1))) := by
                      conv => lhs; rw [hsp]
                      rw [List.map_append, nr_map hg3]; simp [va, rho]
                    have hll : ∀ sig, parseMethodDescriptor (yOf P me').desc = some sig → ((st.take me'.na).reverse).length = sig.parameters.length := lenOf hpar (by simp [hpl]; omega)
                    have hz1 : (cRoom P m' me').cells = 0 := by simp [cRoom, hg0]
                    have hz2 : (cRoom P m' me').slots = 0 := by simp [cRoom, hg0]
                    have hpre : ∀ vm₁, s₀.WarmedH vm₁ → ((Value.ref (n0 + o * (P.al.length + 1)) :: (st.take me'.na).reverse).toArray = ((Value.ref 0 :: (st.take me'.na).reverse).map (va ((n0 + o * (P.al.length + 1)) + ·))).toArray ∧ (T.setVm vm₁).heap = T.heap ∧ lco P mi w + (cRoom P m' me').cells ≤ (lRoom Q mi me).cells ∧ lzo P Q mi w + (cRoom P m' me').slots ≤ (lRoom Q mi me).slots) := fun vm₁ _ => by
                      refine ⟨by rw [List.map_cons, hrv]; rfl, rfl, ?_, ?_⟩
                      · rw [hz1]; simp only [lco, lRoom] at *; split
                        · simpa using hc1
                        · exact Nat.le_refl _
                      · rw [hz2]; simp only [lzo, lRoom] at *; split
                        · simpa using hc2
                        · exact Nat.le_refl _
                    obtain ⟨cq, kq, qa, qb, qc⟩ := isOf hZ rfl (I.2.1 o hgo).1
                    obtain ⟨v', vm₁, ⟨U, lo, ce, sl⟩, -, X', ⟨Lc, hQ, l1, l2, l3⟩, stp⟩ := X.virtualBack hx (y := yOf P me') (z := yOf P me') hown (mv hZ w1) (mv hZ w2) (notFace_of_selects (args := #[]) (mv hZ w4)) (mv hZ w4) (mv hZ w3) LK.2.2.2.2.2.2.2.2.2.2.2.1 hB qa qc (g := mkF m pc L (st.map (va (rho a n0 (P.al.length + 1))))) rfl hsize (Steps.refl _) hll hsm (by show 2 * 0 + _ ≤ _; rw [cats_va]; omega) hd hpre
                    dsimp only [Pt.U, Pt.locs, Pt.cells, Pt.slots] at X' hQ l1 l2 l3 stp
                    subst l1 l2 l3
                    obtain ⟨⟨rfl, hva⟩, hF', hH', hK', hS'⟩ := hQ
                    rw [if_neg hg0] at hH' hS'
                    rw [hz1, hz2] at X'
                    refine Don.step (fun t q => stp.trans ?_) (ihk p l e s₀ m args below meth cd U (locs ++ Lc) _ ls (v'.toList ++ r) _ v w' L hx hZ hown hret hml hlk hs0 hdec hr' X' hc1 hc2 (I.call hgo hK' hS' hH') (hFr.app hF') hL hlen)
                    rw [List.map_append, hva] at q; exact q
                · rw [if_neg hla] at hr; cases hr
              · cases hr
            · cases hr
      -- a static method of the law
      · obtain rfl := hn.resolve_left Bool.false_ne_true
        split at hr
        · cases hr
        · rename_i m' hm'
          split at hr
          · cases hr
          · rename_i me' hme'
            split at hr
            · rename_i hg
              obtain ⟨hg0, hgn, hg1, hg2, hg3⟩ := hg
              obtain ⟨bytes, ps, hcode, hdec', hpar, hpl⟩ := LL.2.2.2.2.2.1 m' me' hme' hg0
              obtain ⟨w1, w2, w3⟩ := LL.2.2.2.1 _ _ hm' me' hme'
              dsimp only at hr
              rw [hme'] at hr
              dsimp only at hr
              by_cases hla : (layA (st.take me'.na).reverse).length ≤ me'.ml
              · rw [if_pos hla] at hr
                cases hcl : lexec P Q sc f m' me' 0 (lay (st.take me'.na).reverse me'.ml) [] w with
                | none => rw [hcl] at hr; cases hr
                | some vs =>
                  obtain ⟨u, w2'⟩ := vs
                  rw [hcl] at hr
                  have hr' : lexec P Q sc f mi me (pc + 3) ls (u.toList ++ st.drop me'.na) w2' = some (v, w') := by cases u <;> exact hr
                  have hndv : ∀ v ∈ (st.take me'.na).reverse, ∀ x, v ≠ .double x := fun v hv x e => nd_spec hg3 v (List.mem_reverse.mp hv) x e
                  have hM := met_of_LW LL (ih m' me' hme') hg0 l hdec' (as := (st.take me'.na).reverse) hndv hla hcl (by simpa [lRoom] using hc1) (by simpa [lRoom] using hc2) I
                  have hB := backOf (R := lRoom Q mi me) (p := p) (e := e) (below := below) (s := s₀) (args := args) (len := 3) (W := cats (st.drop me'.na)) hM hZ hcode w3 hg1 hg2
                  have hsm : st.map (va (rho a n0 (P.al.length + 1))) = (((st.take me'.na).reverse).map (va (rho a n0 (P.al.length + 1)))).reverse ++ (st.drop me'.na).map (va (rho a n0 (P.al.length + 1))) := by
                    conv => lhs; rw [← List.take_append_drop me'.na st]
                    simp
                  have hll : ∀ sig, parseMethodDescriptor (zOf Q me').desc = some sig → (((st.take me'.na).reverse).map (va (rho a n0 (P.al.length + 1)))).length = sig.parameters.length := lenOf hpar (by simp [hpl]; omega)
                  have hz1 : (lRoom Q m' me').cells = 0 := by simp [lRoom, hg0]
                  have hz2 : (lRoom Q m' me').slots = 0 := by simp [lRoom, hg0]
                  have hpre : ∀ vm₁, s₀.WarmedH vm₁ → ((((st.take me'.na).reverse).map (va (rho a n0 (P.al.length + 1)))).toArray = (((st.take me'.na).reverse).map (va (rho a n0 (P.al.length + 1)))).toArray ∧ (T.setVm vm₁).heap = T.heap ∧ lco P mi w + (lRoom Q m' me').cells ≤ (lRoom Q mi me).cells ∧ lzo P Q mi w + (lRoom Q m' me').slots ≤ (lRoom Q mi me).slots) := fun vm₁ _ => by
                    refine ⟨rfl, rfl, ?_, ?_⟩
                    · rw [hz1]; simp only [lco, lRoom] at *; split
                      · simpa using hc1
                      · exact Nat.le_refl _
                    · rw [hz2]; simp only [lzo, lRoom] at *; split
                      · simpa using hc2
                      · exact Nat.le_refl _
                  obtain ⟨v', vm₁, ⟨U, lo, ce, sl⟩, -, X', ⟨Lc, hQ, l1, l2, l3⟩, stp⟩ := Jvm.LawKit.callS X hx (y := zOf Q me') hown (mv hZ w1) (mv hZ w2) (mv hZ w3) (mv hZ hcode) LL.2.2.2.2.2.2.2 hB (g := mkF m pc L (st.map (va (rho a n0 (P.al.length + 1))))) rfl hsize hll hsm (by show 2 * 0 + _ ≤ _; rw [cats_va]; omega) hd hpre
                  dsimp only [Pt.U, Pt.locs, Pt.cells, Pt.slots] at X' hQ l1 l2 l3 stp
                  subst l1 l2 l3
                  obtain ⟨⟨rfl, hva⟩, hF', hI'⟩ := hQ
                  rw [hz1, hz2] at X'
                  have hcn := lexec_cnt _ _ _ _ _ _ _ _ _ hg0 hcl
                  have e1 : lco P mi w2' = lco P mi w := by simp only [lco, hcn]
                  have e2 : lzo P Q mi w2' = lzo P Q mi w := by simp only [lzo, hcn]
                  refine Don.step (fun t q => stp t ?_) (ihk p l e s₀ m args below meth cd U (locs ++ Lc) _ ls (v'.toList ++ st.drop me'.na) _ v w' L hx hZ hown hret hml hlk hs0 hdec hr' (by rw [e1, e2]; exact X') (by rw [hcn]; exact hc1) (by rw [hcn]; exact hc2) hI' (hFr.app hF') hL hlen)
                  rw [List.map_append, hva] at q; exact q
              · rw [if_neg hla] at hr; cases hr
            · cases hr
      -- the rest
      · split at hr
        · split at hr
          · rename_i u hu
            cases hr
            refine st_ret X hx hret hlk hu hd hn ⟨⟨rfl, cret_va hu⟩, hFr, I⟩ ?_ ?_
            · simp only [lco, lRoom] at *; split
              · simpa using hc1
              · exact Nat.le_refl _
            · simp only [lzo, lRoom] at *; split
              · simpa using hc2
              · exact Nat.le_refl _
          · cases hr
        · split at hr
          · rename_i pc' ls' st' hp
            obtain ⟨L', hL', hLs, st⟩ := pstep_sound X hx hp hd hn hL
            have hlen' : ls'.length = me.ml := by rw [← hL'.1, hLs, hL.1]; exact hlen
            exact Don.step st (ihk p l e s₀ m args below meth cd T locs _ ls' st' w v w' L' hx hZ hown hret hml hlk hs0 hdec hr X hc1 hc2 I hFr hL' hlen')
          · cases hr
/-- the law as a whole: what the machine returns, the program returns -/
theorem law_met {P : Cl} {Q : Lw} {sc : Sc} {Z : State} {a0 : Array Value} (LK : LinkC P Z a0) (LL : LinkL P Q Z a0) {a f : Nat} {me : Me} (hme : asc Q.ms 0 = some me) (l : Launch) {bytes : ByteArray} {ws : List Cond}
    (hdec : ∀ pc i n, fetch me.cd pc = some (i, n) → decode bytes pc = .ok (i, n) ∧ (isSw i = true ∨ n = ilen i))
    {as : List Value} (hnd : nd as = true) (hlen : (layA as).length ≤ me.ml) {v : Option Value} {w' : Wd} {h : Heap} (hr : lexec P Q sc f 0 me 0 (lay as me.ml) [] (fun _ => s0, 0, false) = some (v, w')) (hS : SRep Z h a h.size sc) :
    MetFree l (zOf Q me) (head1 (Cond.code (zOf Q me) bytes me.ml (retOf me.rt) :: ws) (lRoom Q 0 me)) (fun b U => b = (as.map (va (rho a h.size (P.al.length + 1)))).toArray ∧ Z.Warmed39 U.vm ∧ U.heap = h) (fun _ _ _ _ _ => True)
      (fun _ U o U' => ∃ u L, o = .returned u ∧ (u = v ∧ Fr h.size L) ∧ FrameEnd U o U' L Q.rc Q.rs) := by
  refine MetFree.of_bodySF (plainFor_of_name LL.2.2.2.2.2.2.1) hisR ?_
  intro p e s₀ m args below meth cd s₁ Bd hml hP hK
  obtain ⟨rfl, hZ, hh⟩ := hP
  have e0 : s₁.heap = h := by rw [← hh, Bd.state]; rfl
  have X0 : Stand p l e (lRoom Q 0 me) s₀ m _ below meth cd s₁ [] 0 0 := Stand.of_body Bd
  have hown : s₀.vm.findClass Q.nm = some m.cls := findClass_of_methodNamed Bd.named
  have hk0 : lco P 0 (fun _ => s0, 0, false) = 0 := by simp [lco]
  have hz0 : lzo P Q 0 (fun _ => s0, 0, false) = 0 := by simp [lzo]
  have D := lwalk LK LL (sc := sc) (a := a) (n0 := h.size) f 0 me hme p l e s₀ m _ below meth cd s₁ [] 0 (lay as me.ml) [] (fun _ => s0, 0, false) v w' _ Bd.exec hZ hown Bd.returns hml Bd.notSynchronized (fun _ => by rw [hh])
    (fun pc i n q => by rw [Bd.bytes]; exact hdec pc i n q) hr (by rw [hk0, hz0]; exact X0) (by simp) (by simp) (by
      rw [e0]; exact ⟨hS, fun o ho => absurd ho (Nat.not_lt_zero _), fun q => by simp at q, by simp⟩) (Fr.nil _) (lay_LR (nd_spec hnd) hlen) (lay_len hlen)
  obtain ⟨s₂, o, a1, a2, a3, u, L, a4, a5, a6⟩ := D
  refine ⟨s₂, o, a1, a2, a3, u, L, a4, ⟨a5.1.1, a5.2.1⟩, ?_⟩
  simpa [lRoom] using a6
end Jvm.LM

namespace Jvm.LM
open Sem ClassFile Op Lib Jvm.Stand Jvm.Free Jvm.LawKit Jvm.RoadKit
/-! what a run of the machine comes to -/
theorem cstep_mono {α : Type} {P : Cl} {mi : Nat} {me : Me} {rt : Option Value → St → Option α} {cl cl' : Nat → Nat → List Value → St → Rs} {k k' : Nat → Nat → Lv → List Value → St → Option α} {i : Instr} {c pc : Nat} {ls : Lv} {st : List Value} {s : St} {r : α}
    (hcl : ∀ m c as s r, cl m c as s = some r → cl' m c as s = some r) (hk : ∀ c pc ls st s r, k c pc ls st s = some r → k' c pc ls st s = some r) (h : cstep P mi me rt cl k i c pc ls st s = some r) : cstep P mi me rt cl' k' i c pc ls st s = some r := by
  unfold cstep at h ⊢
  split at h
  all_goals (try dsimp only)
  · split at h
    · split at h
      · exact hk _ _ _ _ _ _ h
      · cases h
    · cases h
  · split at h
    · split at h
      · exact hk _ _ _ _ _ _ h
      · cases h
    · cases h
  · split at h
    · exact hk _ _ _ _ _ _ h
    · cases h
  · split at h
    · exact hk _ _ _ _ _ _ h
    · cases h
  · split at h
    · exact hk _ _ _ _ _ _ h
    · cases h
  · split at h
    · exact hk _ _ _ _ _ _ h
    · cases h
  · split at h
    · exact hk _ _ _ _ _ _ h
    · cases h
  · split at h
    · exact hk _ _ _ _ _ _ h
    · cases h
  · split at h
    · rename_i q; rw [if_pos q]; exact hk _ _ _ _ _ _ h
    · cases h
  · split at h
    · exact hk _ _ _ _ _ _ h
    · cases h
  · split at h
    · exact hk _ _ _ _ _ _ h
    · cases h
  · split at h
    · split at h
      · rename_i q; rw [if_pos q]; exact hk _ _ _ _ _ _ h
      · cases h
    · cases h
  · split at h
    · cases h
    · rename_i m' hm'
      split at h
      · cases h
      · rename_i me' hme'
        split at h
        · rename_i r0 hst
          split at h
          · rename_i q
            rw [if_pos q]
            split at h
            · rename_i s1 hc; rw [hcl _ _ _ _ _ hc]; exact hk _ _ _ _ _ _ h
            · rename_i v1 s1 hc; rw [hcl _ _ _ _ _ hc]; exact hk _ _ _ _ _ _ h
            · cases h
          · cases h
        · cases h
  · split at h
    · rename_i q; rw [if_pos q]; exact h
    · rename_i q; rw [if_neg q]
      split at h
      · exact hk _ _ _ _ _ _ h
      · cases h
theorem cexec_succ {P : Cl} : ∀ f mi me c pc ls st s r, cexec P f mi me c pc ls st s = some r → cexec P (f + 1) mi me c pc ls st s = some r := by
  intro f
  induction f with
  | zero => intro mi me c pc ls st s r h; cases h
  | succ f ih =>
    intro mi me c pc ls st s r h
    rw [cexec] at h ⊢
    split at h
    · cases h
    · refine cstep_mono (fun m c as s r h => ?_) (fun c pc ls st s r h => ih _ _ _ _ _ _ _ _ h) h
      split at h
      · split at h
        · rename_i q; rw [if_pos q]; exact ih _ _ _ _ _ _ _ _ h
        · cases h
      · cases h
theorem cexec_le {P : Cl} {f g mi : Nat} {me : Me} {c pc : Nat} {ls : Lv} {st : List Value} {s : St} {r : Option Value × St} (hfg : f ≤ g) (h : cexec P f mi me c pc ls st s = some r) : cexec P g mi me c pc ls st s = some r := by
  obtain ⟨d, rfl⟩ := Nat.le.dest hfg
  induction d with
  | zero => exact h
  | succ d ih => exact cexec_succ _ _ _ _ _ _ _ _ _ (ih (Nat.le_add_right _ _))
theorem ccall_le {P : Cl} {f g m' c : Nat} {as : List Value} {s : St} {r : Option Value × St} (hfg : f ≤ g) (h : ccall P f m' c as s = some r) : ccall P g m' c as s = some r := by
  unfold ccall at h ⊢
  split at h
  · split at h
    · rename_i q; rw [if_pos q]; exact cexec_le hfg h
    · cases h
  · cases h
def wpc (P : Cl) (mi : Nat) (me : Me) (c pc : Nat) (ls : Lv) (st : List Value) (s : St) (Q : Option Value → St → Prop) : Prop := ∃ f v s', cexec P f mi me c pc ls st s = some (v, s') ∧ Q v s'
def cal (P : Cl) (m' c : Nat) (as : List Value) (s : St) (Q : Option Value → St → Prop) : Prop := ∃ f v s', ccall P f m' c as s = some (v, s') ∧ Q v s'
def calI (P : Cl) (m' c : Nat) (as : List Value) (s : St) (Q : Int32 → St → Prop) : Prop := cal P m' c as s fun r s' => ∃ v, r = some (.int v) ∧ Q v s'
def calL (P : Cl) (m' c : Nat) (as : List Value) (s : St) (Q : Int64 → St → Prop) : Prop := cal P m' c as s fun r s' => ∃ v, r = some (.long v) ∧ Q v s'
def calV (P : Cl) (m' c : Nat) (as : List Value) (s : St) (Q : St → Prop) : Prop := cal P m' c as s fun r s' => r = none ∧ Q s'
theorem cstep_nat {α : Type} {P : Cl} {mi : Nat} {me : Me} {k : Nat → Nat → Lv → List Value → St → Option α} {i : Instr} {c pc : Nat} {ls : Lv} {st : List Value} {s : St} {x : α}
    (h : cstep P mi me (fun _ _ => none) (fun _ _ _ _ => none) k i c pc ls st s = some x) : ∃ c' pc' ls' st' s', k c' pc' ls' st' s' = some x ∧ ∀ (β : Type) (rt : Option Value → St → Option β) cl (k' : Nat → Nat → Lv → List Value → St → Option β), cstep P mi me rt cl k' i c pc ls st s = k' c' pc' ls' st' s' := by
  unfold cstep at h
  split at h
  · split at h
    · split at h
      · rename_i q; exact ⟨_, _, _, _, _, h, fun β rt cl k' => by simp only [cstep, q]⟩
      · cases h
    · cases h
  · split at h
    · split at h
      · rename_i q; exact ⟨_, _, _, _, _, h, fun β rt cl k' => by simp only [cstep, q]⟩
      · cases h
    · cases h
  · split at h
    · rename_i q; exact ⟨_, _, _, _, _, h, fun β rt cl k' => by simp only [cstep, q]⟩
    · cases h
  · split at h
    · rename_i q; exact ⟨_, _, _, _, _, h, fun β rt cl k' => by simp only [cstep, q]⟩
    · cases h
  · split at h
    · rename_i q; exact ⟨_, _, _, _, _, h, fun β rt cl k' => by simp only [cstep, q]⟩
    · cases h
  · split at h
    · rename_i q; exact ⟨_, _, _, _, _, h, fun β rt cl k' => by simp only [cstep, q]⟩
    · cases h
  · split at h
    · rename_i q; exact ⟨_, _, _, _, _, h, fun β rt cl k' => by simp only [cstep, q]⟩
    · cases h
  · split at h
    · rename_i q; exact ⟨_, _, _, _, _, h, fun β rt cl k' => by simp only [cstep, q]⟩
    · cases h
  · split at h
    · rename_i q; exact ⟨_, _, _, _, _, h, fun β rt cl k' => by simp only [cstep]; rw [if_pos q]⟩
    · cases h
  · split at h
    · rename_i q; exact ⟨_, _, _, _, _, h, fun β rt cl k' => by simp only [cstep, q]⟩
    · cases h
  · split at h
    · rename_i q; exact ⟨_, _, _, _, _, h, fun β rt cl k' => by simp only [cstep, q]⟩
    · cases h
  · split at h
    · split at h
      · rename_i q; exact ⟨_, _, _, _, _, h, fun β rt cl k' => by simp only [cstep]; rw [if_pos q]⟩
      · cases h
    · cases h
  · split at h
    · cases h
    · split at h
      · cases h
      · split at h
        · split at h
          · cases h
          · cases h
        · cases h
  · rename_i n1 n2 n3 n4 n5 n6 n7 n8 n9 n10 n11 n12 n13
    split at h
    · split at h
      · cases h
      · split at h <;> cases h
    · rename_i hr
      split at h
      · rename_i pc' ls' st' hp
        refine ⟨_, _, _, _, _, h, fun β rt cl k' => ?_⟩
        unfold cstep
        split <;> first | (exfalso; first | exact n1 _ rfl | exact n2 _ rfl | exact n3 rfl | exact n4 rfl | exact n5 rfl | exact n6 rfl | exact n7 rfl | exact n8 rfl | exact n9 _ rfl | exact n10 _ rfl | exact n11 _ rfl | exact n12 _ rfl | exact n13 _ rfl) | skip
        rw [if_neg hr, hp]
      · cases h
def csl (P : Cl) (mi : Nat) (me : Me) : Nat → Nat → Nat → Lv → List Value → St → Option (Nat × Nat × Lv × List Value × St)
  | 0, c, pc, ls, st, s => some (c, pc, ls, st, s)
  | n + 1, c, pc, ls, st, s => match fetch me.cd pc with
    | none => none
    | some (i, _) => cstep P mi me (fun _ _ => none) (fun _ _ _ _ => none) (csl P mi me n) i c pc ls st s
theorem wpc_one {P : Cl} {mi : Nat} {me : Me} {c pc c' pc' : Nat} {ls ls' : Lv} {st st' : List Value} {s s' : St} {Q : Option Value → St → Prop} {i : Instr} {n : Nat} (hf : fetch me.cd pc = some (i, n))
    (h : ∀ (rt : Option Value → St → Rs) cl (k : Nat → Nat → Lv → List Value → St → Rs), cstep P mi me rt cl k i c pc ls st s = k c' pc' ls' st' s') (hq : wpc P mi me c' pc' ls' st' s' Q) : wpc P mi me c pc ls st s Q := by
  obtain ⟨f, v, s2, h1, h2⟩ := hq
  refine ⟨f + 1, v, s2, ?_, h2⟩
  rw [cexec, hf]; dsimp only; rw [h]; exact h1
theorem wpc_sl {P : Cl} {mi : Nat} {me : Me} {Q : Option Value → St → Prop} : ∀ {n c pc c' pc' : Nat} {ls ls' : Lv} {st st' : List Value} {s s' : St}, csl P mi me n c pc ls st s = some (c', pc', ls', st', s') → wpc P mi me c' pc' ls' st' s' Q → wpc P mi me c pc ls st s Q := by
  intro n
  induction n with
  | zero => intro c pc c' pc' ls ls' st st' s s' h hq; cases h; exact hq
  | succ n ih =>
    intro c pc c' pc' ls ls' st st' s s' h hq
    simp only [csl] at h
    split at h
    · cases h
    · rename_i i m hf
      obtain ⟨c1, pc1, ls1, st1, s1, h1, h2⟩ := cstep_nat h
      exact wpc_one hf (fun rt cl k => h2 _ rt cl k) (ih h1 hq)
theorem wpc_ret {P : Cl} {mi : Nat} {me : Me} {c pc : Nat} {ls : Lv} {st : List Value} {s : St} {Q : Option Value → St → Prop} {i : Instr} {n : Nat} {v : Option Value} (hf : fetch me.cd pc = some (i, n)) (hr : isRet i = true) (hc : mi = 0 → c = P.al.length) (h : cret me st i = some v) (hq : Q v s) : wpc P mi me c pc ls st s Q := by
  refine ⟨1, v, s, ?_, hq⟩
  rw [cexec, hf]; dsimp only
  have hc' : ¬ (mi = 0 ∧ c ≠ P.al.length) := fun q => q.2 (hc q.1)
  cases i <;> first | (cases hr; done) | (simp only [cstep]; rw [if_pos hr, if_neg hc', h])
theorem wpc_if {P : Cl} {mi : Nat} {me : Me} {c pc a b : Nat} {ls : Lv} {r : List Value} {s : St} {Q : Option Value → St → Prop} {cd : ClassFile.Cond} {o : Int} {n : Nat} {x : Int32} (hf : fetch me.cd pc = some (.ifCond cd o, n)) (ho : 0 ≤ (pc : Int) + o) (ha : jmp pc o = a) (hb : pc + 3 = b)
    (hq : wpc P mi me c (br cd x 0 a b) ls r s Q) : wpc P mi me c pc ls (.int x :: r) s Q := by
  subst ha hb
  refine wpc_one hf (fun rt cl k => ?_) hq
  show (match pstep (.ifCond cd o) pc ls (.int x :: r) with | some (pc', ls', st') => k c pc' ls' st' s | none => none) = _
  simp only [pstep, qstep]; rw [if_pos ho]
theorem wpc_icmp {P : Cl} {mi : Nat} {me : Me} {c pc a b : Nat} {ls : Lv} {r : List Value} {s : St} {Q : Option Value → St → Prop} {cd : ClassFile.Cond} {o : Int} {n : Nat} {x y : Int32} (hf : fetch me.cd pc = some (.if_icmp cd o, n)) (ho : 0 ≤ (pc : Int) + o) (ha : jmp pc o = a) (hb : pc + 3 = b)
    (hq : wpc P mi me c (br cd x y a b) ls r s Q) : wpc P mi me c pc ls (.int y :: .int x :: r) s Q := by
  subst ha hb
  refine wpc_one hf (fun rt cl k => ?_) hq
  show (match pstep (.if_icmp cd o) pc ls (.int y :: .int x :: r) with | some (pc', ls', st') => k c pc' ls' st' s | none => none) = _
  simp only [pstep, qstep]; rw [if_pos ho]
/-- the two roads of a branch -/
theorem wpc_br {P : Cl} {mi : Nat} {me : Me} {c a b : Nat} {ls : Lv} {st : List Value} {s : St} {Q : Option Value → St → Prop} {p : Prop} [Decidable p] (h : (p → wpc P mi me c a ls st s Q) ∧ (¬ p → wpc P mi me c b ls st s Q)) : wpc P mi me c (if p then a else b) ls st s Q := by
  by_cases hp : p
  · rw [if_pos hp]; exact h.1 hp
  · rw [if_neg hp]; exact h.2 hp
theorem wpc_lda {P : Cl} {mi : Nat} {me : Me} {c pc a tt N : Nat} {ls : Lv} {r : List Value} {s : St} {Q : Option Value → St → Prop} {i : Instr} {n : Nat} {j : Int32} (hf : fetch me.cd pc = some (i, n)) (hi : (tt = 0 ∧ i = .iaload) ∨ (tt = 1 ∧ i = .baload) ∨ (tt = 2 ∧ i = .laload)) (ha : P.al[a]? = some (tt, N)) (hac : a < c)
    (hj : inb N j) (hq : wpc P mi me c (pc + 1) ls (elv tt s (a + 1) (ix j) :: r) s Q) : wpc P mi me c pc ls (.int j :: .ref (a + 1) :: r) s Q := by
  have hl : lda P tt c (.int j :: .ref (a + 1) :: r) s = some (elv tt s (a + 1) (ix j) :: r) := by
    simp only [lda, ha]; rw [if_pos ⟨trivial, hac⟩, if_pos hj]; rfl
  refine wpc_one hf (fun rt cl k => ?_) hq
  rcases hi with ⟨rfl, rfl⟩ | ⟨rfl, rfl⟩ | ⟨rfl, rfl⟩ <;> simp only [cstep, hl]
theorem wpc_sta {P : Cl} {mi : Nat} {me : Me} {c pc a tt N : Nat} {ls : Lv} {r : List Value} {s s' : St} {Q : Option Value → St → Prop} {i : Instr} {n : Nat} {j : Int32} {v : Value} (hf : fetch me.cd pc = some (i, n)) (hi : (tt = 0 ∧ i = .iastore ∧ ∃ z, v = .int z ∧ s' = sI s (a + 1) (ix j) z) ∨ (tt = 1 ∧ i = .bastore ∧ ∃ z, v = .int z ∧ s' = sI s (a + 1) (ix j) (z &&& 1)) ∨ (tt = 2 ∧ i = .lastore ∧ ∃ z, v = .long z ∧ s' = sL s (a + 1) (ix j) z)) (ha : P.al[a]? = some (tt, N)) (hac : a < c)
    (hj : inb N j) (hq : wpc P mi me c (pc + 1) ls r s' Q) : wpc P mi me c pc ls (v :: .int j :: .ref (a + 1) :: r) s Q := by
  have hl : sta P tt c (v :: .int j :: .ref (a + 1) :: r) s = some (r, s') := by
    simp only [sta, ha]; rw [if_pos ⟨trivial, hac⟩, if_pos hj]
    rcases hi with ⟨rfl, -, z, rfl, rfl⟩ | ⟨rfl, -, z, rfl, rfl⟩ | ⟨rfl, -, z, rfl, rfl⟩ <;> rfl
  refine wpc_one hf (fun rt cl k => ?_) hq
  rcases hi with ⟨rfl, rfl, -⟩ | ⟨rfl, rfl, -⟩ | ⟨rfl, rfl, -⟩ <;> simp only [cstep, hl]
theorem wpc_call {P : Cl} {mi : Nat} {me me' : Me} {c pc x m' : Nat} {ls : Lv} {st r as : List Value} {s : St} {Q : Option Value → St → Prop} {n : Nat} (hf : fetch me.cd pc = some (.invokevirtual x, n)) (hm : asc P.mx x = some m') (hme : asc P.ms m' = some me') (hst : st.drop me'.na = .ref 0 :: r) (has : (st.take me'.na).reverse = as)
    (hg : m' ≠ 0 ∧ me'.rf + 1 ≤ me.rf ∧ cats r + (me'.ml + 11) + me'.rl ≤ me.rl ∧ nd (st.take me'.na) = true)
    (hq : cal P m' c (.ref 0 :: as) s fun v s' => wpc P mi me c (pc + 3) ls (v.toList ++ r) s' Q) : wpc P mi me c pc ls st s Q := by
  subst has
  obtain ⟨f1, v, s1, h1, f2, v2, s2, h2, h3⟩ := hq
  refine ⟨max f1 f2 + 1, v2, s2, ?_, h3⟩
  have h1' := ccall_le (Nat.le_max_left f1 f2) h1
  have h2' := cexec_le (Nat.le_max_right f1 f2) h2
  rw [cexec, hf]; dsimp only
  simp only [cstep, hm, hme, hst]
  rw [if_pos hg]
  simp only [ccall, hme] at h1'
  rw [h1']
  cases v <;> exact h2'
theorem cal_of {P : Cl} {m' c : Nat} {as : List Value} {s : St} {Q : Option Value → St → Prop} {me : Me} {ls : Lv} (hme : asc P.ms m' = some me) (hl : (layA as).length ≤ me.ml) (hls : lay as me.ml = ls) (h : wpc P m' me c 0 ls [] s Q) : cal P m' c as s Q := by
  subst hls
  obtain ⟨f, v, s', h1, h2⟩ := h
  refine ⟨f, v, s', ?_, h2⟩
  simp only [ccall, hme]; rw [if_pos hl]; exact h1
theorem cal.mono {P : Cl} {m' c : Nat} {as : List Value} {s : St} {Q Q' : Option Value → St → Prop} (h : cal P m' c as s Q) (hq : ∀ v s', Q v s' → Q' v s') : cal P m' c as s Q' := by
  obtain ⟨f, v, s', h1, h2⟩ := h; exact ⟨f, v, s', h1, hq _ _ h2⟩
theorem calI.mono {P : Cl} {m' c : Nat} {as : List Value} {s : St} {Q Q' : Int32 → St → Prop} (h : calI P m' c as s Q) (hq : ∀ v s', Q v s' → Q' v s') : calI P m' c as s Q' := cal.mono h fun _ _ ⟨v, e, q⟩ => ⟨v, e, hq _ _ q⟩
theorem calL.mono {P : Cl} {m' c : Nat} {as : List Value} {s : St} {Q Q' : Int64 → St → Prop} (h : calL P m' c as s Q) (hq : ∀ v s', Q v s' → Q' v s') : calL P m' c as s Q' := cal.mono h fun _ _ ⟨v, e, q⟩ => ⟨v, e, hq _ _ q⟩
theorem calV.mono {P : Cl} {m' c : Nat} {as : List Value} {s : St} {Q Q' : St → Prop} (h : calV P m' c as s Q) (hq : ∀ s', Q s' → Q' s') : calV P m' c as s Q' := cal.mono h fun _ _ ⟨e, q⟩ => ⟨e, hq _ q⟩
theorem wpc.mono {P : Cl} {mi : Nat} {me : Me} {c pc : Nat} {ls : Lv} {st : List Value} {s : St} {Q Q' : Option Value → St → Prop} (h : wpc P mi me c pc ls st s Q) (hq : ∀ v s', Q v s' → Q' v s') : wpc P mi me c pc ls st s Q' := by
  obtain ⟨f, v, s', h1, h2⟩ := h; exact ⟨f, v, s', h1, hq _ _ h2⟩
theorem wpc_callI {P : Cl} {mi : Nat} {me me' : Me} {c pc x m' : Nat} {ls : Lv} {st r as : List Value} {s : St} {Q : Option Value → St → Prop} {n : Nat} (hf : fetch me.cd pc = some (.invokevirtual x, n)) (hm : asc P.mx x = some m') (hme : asc P.ms m' = some me') (hst : st.drop me'.na = .ref 0 :: r) (has : (st.take me'.na).reverse = as)
    (hg : m' ≠ 0 ∧ me'.rf + 1 ≤ me.rf ∧ cats r + (me'.ml + 11) + me'.rl ≤ me.rl ∧ nd (st.take me'.na) = true)
    (hq : calI P m' c (.ref 0 :: as) s fun v s' => wpc P mi me c (pc + 3) ls (.int v :: r) s' Q) : wpc P mi me c pc ls st s Q :=
  wpc_call hf hm hme hst has hg (cal.mono hq fun _ _ ⟨v, e, q⟩ => by subst e; exact q)
theorem wpc_callL {P : Cl} {mi : Nat} {me me' : Me} {c pc x m' : Nat} {ls : Lv} {st r as : List Value} {s : St} {Q : Option Value → St → Prop} {n : Nat} (hf : fetch me.cd pc = some (.invokevirtual x, n)) (hm : asc P.mx x = some m') (hme : asc P.ms m' = some me') (hst : st.drop me'.na = .ref 0 :: r) (has : (st.take me'.na).reverse = as)
    (hg : m' ≠ 0 ∧ me'.rf + 1 ≤ me.rf ∧ cats r + (me'.ml + 11) + me'.rl ≤ me.rl ∧ nd (st.take me'.na) = true)
    (hq : calL P m' c (.ref 0 :: as) s fun v s' => wpc P mi me c (pc + 3) ls (.long v :: r) s' Q) : wpc P mi me c pc ls st s Q :=
  wpc_call hf hm hme hst has hg (cal.mono hq fun _ _ ⟨v, e, q⟩ => by subst e; exact q)
theorem wpc_callV {P : Cl} {mi : Nat} {me me' : Me} {c pc x m' : Nat} {ls : Lv} {st r as : List Value} {s : St} {Q : Option Value → St → Prop} {n : Nat} (hf : fetch me.cd pc = some (.invokevirtual x, n)) (hm : asc P.mx x = some m') (hme : asc P.ms m' = some me') (hst : st.drop me'.na = .ref 0 :: r) (has : (st.take me'.na).reverse = as)
    (hg : m' ≠ 0 ∧ me'.rf + 1 ≤ me.rf ∧ cats r + (me'.ml + 11) + me'.rl ≤ me.rl ∧ nd (st.take me'.na) = true)
    (hq : calV P m' c (.ref 0 :: as) s fun s' => wpc P mi me c (pc + 3) ls r s' Q) : wpc P mi me c pc ls st s Q :=
  wpc_call hf hm hme hst has hg (cal.mono hq fun _ _ ⟨e, q⟩ => by subst e; exact q)
/-- both roads of a value -/
theorem wp_val {p : Prop} [Decidable p] {α : Sort _} {F : α → Prop} {x y : α} (h : F (if p then x else y)) : (p → F x) ∧ (¬ p → F y) := ⟨fun q => by rw [if_pos q] at h; exact h, fun q => by rw [if_neg q] at h; exact h⟩
end Jvm.LM

namespace Jvm.LM
open Sem ClassFile Op Lib Jvm.Stand Jvm.Free Jvm.LawKit Jvm.RoadKit
/-! variables that are not read any more -/
def lle (a b : Lv) : Prop := a.length = b.length ∧ ∀ (k : Nat) (v : Value), a[k]? = some (some v) → b[k]? = some (some v)
def lle' : Lv → Lv → Prop
  | [], [] => True
  | none :: a, _ :: b => lle' a b
  | some v :: a, w :: b => w = some v ∧ lle' a b
  | _, _ => False
theorem lle_of {a b : Lv} (h : lle' a b) : lle a b := by
  induction a generalizing b with
  | nil => cases b with
    | nil => exact ⟨rfl, fun k v hk => hk⟩
    | cons y b => cases h
  | cons x a ih =>
    cases b with
    | nil => cases x <;> cases h
    | cons y b =>
      cases x with
      | none =>
        obtain ⟨h1, h2⟩ := ih (b := b) h
        refine ⟨by simp [h1], fun k v hk => ?_⟩
        cases k with
        | zero => simp at hk
        | succ k => simp at hk ⊢; exact h2 k v hk
      | some x =>
        obtain ⟨e, h⟩ := h
        obtain ⟨h1, h2⟩ := ih (b := b) h
        subst e
        refine ⟨by simp [h1], fun k v hk => ?_⟩
        cases k with
        | zero => exact hk
        | succ k => simp at hk ⊢; exact h2 k v hk
theorem clr_lle {a b : Lv} (h : lle a b) (i : Nat) : (clr a i).length = (clr b i).length ∧ ∀ k v, k ≠ i → (clr a i)[k]? = some (some v) → (clr b i)[k]? = some (some v) := by
  refine ⟨by rw [clr_len, clr_len]; exact h.1, fun k v hk hv => ?_⟩
  obtain ⟨q1, q2⟩ := clr_get hv
  have q3 := h.2 _ _ q1
  cases i with
  | zero => exact q3
  | succ j =>
    simp only [clr]
    split
    · rename_i x e
      rw [List.getElem?_set]
      split
      · rename_i e2; subst e2
        rw [q3] at e; cases e
        exact absurd rfl (q2 rfl)
      · exact q3
    · rename_i x e
      rw [List.getElem?_set]
      split
      · rename_i e2; subst e2
        rw [q3] at e; cases e
        exact absurd rfl (q2 rfl)
      · exact q3
    · exact q3
theorem stl_lle {a b a' : Lv} (h : lle a b) {i : Nat} {v : Value} (hs : stl a i v = some a') : ∃ b', stl b i v = some b' ∧ lle a' b' := by
  obtain ⟨c1, c2⟩ := clr_lle h i
  have hl := h.1
  have one : ∀ w : Value, ∀ k u, ((clr a i).set i (some w))[k]? = some (some u) → ((clr b i).set i (some w))[k]? = some (some u) := fun w k u hk => by
    rw [List.getElem?_set] at hk ⊢
    split
    · rename_i e; rw [if_pos e] at hk; rw [← c1]; exact hk
    · rename_i e; rw [if_neg e] at hk; exact c2 k u (fun q => e q.symm) hk
  unfold stl at hs ⊢
  split at hs
  · rename_i x
    split at hs
    · rename_i q
      cases hs
      refine ⟨((clr b i).set i (some (.long x))).set (i + 1) none, if_pos (by rw [← hl]; exact q), by simp [c1], fun k u hk => ?_⟩
      rw [List.getElem?_set] at hk ⊢
      split
      · rename_i e; rw [if_pos e] at hk; split at hk <;> simp at hk
      · rename_i e; rw [if_neg e] at hk; exact one _ k u hk
    · cases hs
  · split at hs
    · rename_i q
      cases hs
      exact ⟨(clr b i).set i (some v), if_pos (by rw [← hl]; exact q), by simp [c1], fun k u hk => one _ k u hk⟩
    · cases hs
theorem pstep_lle {i : Instr} {pc pc' : Nat} {ls l1 ls' : Lv} {st st' : List Value} (h : pstep i pc ls st = some (pc', l1, st')) (hl : lle ls ls') : ∃ l1', pstep i pc ls' st = some (pc', l1', st') ∧ lle l1 l1' := by
  unfold pstep at h ⊢
  split at h
  all_goals (try dsimp only)
  iterate 6
    · split at h
      · rename_i e; cases h; rw [hl.2 _ _ e]; exact ⟨_, rfl, hl⟩
      · cases h
  iterate 6
    · split at h
      · split at h
        · rename_i e; cases h
          obtain ⟨b', q1, q2⟩ := stl_lle hl e
          rw [q1]; exact ⟨_, rfl, q2⟩
        · cases h
      · cases h
  · split at h
    · rename_i e0
      split at h
      · rename_i e; cases h
        obtain ⟨b', q1, q2⟩ := stl_lle hl e
        rw [hl.2 _ _ e0]; dsimp only; rw [q1]; exact ⟨_, rfl, q2⟩
      · cases h
    · cases h
  · split at h
    · cases h; exact ⟨_, rfl, hl⟩
    · cases h
theorem cstep_lle {P : Cl} {mi : Nat} {me : Me} {rt : Option Value → St → Rs} {cl : Nat → Nat → List Value → St → Rs} {k : Nat → Nat → Lv → List Value → St → Rs} {i : Instr} {c pc : Nat} {ls ls' : Lv} {st : List Value} {s : St} {r : Option Value × St} (hl : lle ls ls')
    (hk : ∀ c pc ls ls' st s, lle ls ls' → k c pc ls st s = some r → k c pc ls' st s = some r) (h : cstep P mi me rt cl k i c pc ls st s = some r) : cstep P mi me rt cl k i c pc ls' st s = some r := by
  unfold cstep at h ⊢
  split at h
  all_goals (try dsimp only)
  · split at h
    · split at h
      · exact hk _ _ _ _ _ _ hl h
      · cases h
    · cases h
  · split at h
    · split at h
      · exact hk _ _ _ _ _ _ hl h
      · cases h
    · cases h
  iterate 6
    · split at h
      · exact hk _ _ _ _ _ _ hl h
      · cases h
  · split at h
    · rename_i q; rw [if_pos q]; exact hk _ _ _ _ _ _ hl h
    · cases h
  iterate 2
    · split at h
      · exact hk _ _ _ _ _ _ hl h
      · cases h
  · split at h
    · split at h
      · rename_i q; rw [if_pos q]; exact hk _ _ _ _ _ _ hl h
      · cases h
    · cases h
  · split at h
    · cases h
    · split at h
      · cases h
      · split at h
        · split at h
          · rename_i q
            rw [if_pos q]
            split at h
            · exact hk _ _ _ _ _ _ hl h
            · exact hk _ _ _ _ _ _ hl h
            · cases h
          · cases h
        · cases h
  · split at h
    · rename_i q; rw [if_pos q]; exact h
    · rename_i q; rw [if_neg q]
      split at h
      · rename_i e
        obtain ⟨l1', q1, q2⟩ := pstep_lle e hl
        rw [q1]; exact hk _ _ _ _ _ _ q2 h
      · cases h
theorem cexec_lle {P : Cl} : ∀ f mi me c pc ls ls' st s r, lle ls ls' → cexec P f mi me c pc ls st s = some r → cexec P f mi me c pc ls' st s = some r := by
  intro f
  induction f with
  | zero => intro mi me c pc ls ls' st s r _ h; cases h
  | succ f ih =>
    intro mi me c pc ls ls' st s r hl h
    rw [cexec] at h ⊢
    split at h
    · cases h
    · exact cstep_lle hl (fun c pc ls ls' st s hl h => ih _ _ _ _ _ _ _ _ _ hl h) h
theorem wpc_lle {P : Cl} {mi : Nat} {me : Me} {c pc : Nat} {ls ls' : Lv} {st : List Value} {s : St} {Q : Option Value → St → Prop} (hl : lle' ls ls') (h : wpc P mi me c pc ls st s Q) : wpc P mi me c pc ls' st s Q := by
  obtain ⟨f, v, s', h1, h2⟩ := h; exact ⟨f, v, s', cexec_lle _ _ _ _ _ _ _ _ _ _ (lle_of hl) h1, h2⟩
end Jvm.LM

namespace Jvm.LM
open Sem ClassFile Op Lib Jvm.Stand Jvm.Free Jvm.LawKit Jvm.RoadKit
theorem lstep_mono {α : Type} {P : Cl} {Q : Lw} {sc : Sc} {mi : Nat} {me : Me} {rt : Option Value → Wd → Option α} {cc cc' : Nat → Nat → List Value → St → Rs} {cl cl' : Nat → List Value → Wd → Rw} {k k' : Nat → Lv → List Value → Wd → Option α} {i : Instr} {pc : Nat} {ls : Lv} {st : List Value} {w : Wd} {r : α}
    (hcc : ∀ m c as s r, cc m c as s = some r → cc' m c as s = some r) (hcl : ∀ m as s r, cl m as s = some r → cl' m as s = some r) (hk : ∀ pc ls st s r, k pc ls st s = some r → k' pc ls st s = some r) (h : lstep P Q sc mi me rt cc cl k i pc ls st w = some r) : lstep P Q sc mi me rt cc' cl' k' i pc ls st w = some r := by
  unfold lstep at h ⊢
  split at h
  all_goals (try dsimp only)
  · split at h
    · split at h
      · rename_i q; rw [if_pos q]; exact hk _ _ _ _ _ h
      · cases h
    · cases h
  · split at h
    · exact hk _ _ _ _ _ h
    · cases h
  · split at h
    · exact hk _ _ _ _ _ h
    · cases h
  · split at h
    · exact hk _ _ _ _ _ h
    · cases h
  · split at h
    · rename_i q; rw [if_pos q]; exact hk _ _ _ _ _ h
    · cases h
  · split at h
    · cases h
    · split at h
      · split at h
        · rename_i q
          rw [if_pos q]
          split at h
          · rename_i s1 hc; rw [hcc _ _ _ _ _ hc]; exact hk _ _ _ _ _ h
          · cases h
        · cases h
      · cases h
  · split at h
    · cases h
    · split at h
      · cases h
      · split at h
        · split at h
          · rename_i q
            rw [if_pos q]
            split at h
            · rename_i s1 hc; rw [hcc _ _ _ _ _ hc]; exact hk _ _ _ _ _ h
            · rename_i v1 s1 hc; rw [hcc _ _ _ _ _ hc]; exact hk _ _ _ _ _ h
            · cases h
          · cases h
        · cases h
  · split at h
    · cases h
    · split at h
      · cases h
      · split at h
        · rename_i q
          rw [if_pos q]
          split at h
          · rename_i s1 hc; rw [hcl _ _ _ _ hc]; exact hk _ _ _ _ _ h
          · rename_i v1 s1 hc; rw [hcl _ _ _ _ hc]; exact hk _ _ _ _ _ h
          · cases h
        · cases h
  · split at h
    · rename_i q; rw [if_pos q]; exact h
    · rename_i q; rw [if_neg q]
      split at h
      · exact hk _ _ _ _ _ h
      · cases h
theorem lexec_succ {P : Cl} {Q : Lw} {sc : Sc} : ∀ f mi me pc ls st w r, lexec P Q sc f mi me pc ls st w = some r → lexec P Q sc (f + 1) mi me pc ls st w = some r := by
  intro f
  induction f with
  | zero => intro mi me pc ls st s r h; cases h
  | succ f ih =>
    intro mi me pc ls st s r h
    rw [lexec] at h ⊢
    split at h
    · cases h
    · refine lstep_mono (fun m c as s r h => ccall_le (Nat.le_succ _) h) (fun m as s r h => ?_) (fun pc ls st s r h => ih _ _ _ _ _ _ _ h) h
      split at h
      · split at h
        · rename_i q; rw [if_pos q]; exact ih _ _ _ _ _ _ _ h
        · cases h
      · cases h
theorem lexec_le {P : Cl} {Q : Lw} {sc : Sc} {f g mi : Nat} {me : Me} {pc : Nat} {ls : Lv} {st : List Value} {w : Wd} {r : Option Value × Wd} (hfg : f ≤ g) (h : lexec P Q sc f mi me pc ls st w = some r) : lexec P Q sc g mi me pc ls st w = some r := by
  obtain ⟨d, rfl⟩ := Nat.le.dest hfg
  induction d with
  | zero => exact h
  | succ d ih => exact lexec_succ _ _ _ _ _ _ _ _ (ih (Nat.le_add_right _ _))
theorem lcall_le {P : Cl} {Q : Lw} {sc : Sc} {f g m' : Nat} {as : List Value} {w : Wd} {r : Option Value × Wd} (hfg : f ≤ g) (h : lcall P Q sc f m' as w = some r) : lcall P Q sc g m' as w = some r := by
  unfold lcall at h ⊢
  split at h
  · split at h
    · rename_i q; rw [if_pos q]; exact lexec_le hfg h
    · cases h
  · cases h
def wpl (P : Cl) (Q : Lw) (sc : Sc) (mi : Nat) (me : Me) (pc : Nat) (ls : Lv) (st : List Value) (w : Wd) (R : Option Value → Wd → Prop) : Prop := ∃ f v w', lexec P Q sc f mi me pc ls st w = some (v, w') ∧ R v w'
def lal (P : Cl) (Q : Lw) (sc : Sc) (m' : Nat) (as : List Value) (w : Wd) (R : Option Value → Wd → Prop) : Prop := ∃ f v w', lcall P Q sc f m' as w = some (v, w') ∧ R v w'
def lalI (P : Cl) (Q : Lw) (sc : Sc) (m' : Nat) (as : List Value) (w : Wd) (R : Int32 → Wd → Prop) : Prop := lal P Q sc m' as w fun r w' => ∃ v, r = some (.int v) ∧ R v w'
def lalL (P : Cl) (Q : Lw) (sc : Sc) (m' : Nat) (as : List Value) (w : Wd) (R : Int64 → Wd → Prop) : Prop := lal P Q sc m' as w fun r w' => ∃ v, r = some (.long v) ∧ R v w'
def lalV (P : Cl) (Q : Lw) (sc : Sc) (m' : Nat) (as : List Value) (w : Wd) (R : Wd → Prop) : Prop := lal P Q sc m' as w fun r w' => r = none ∧ R w'
theorem lal.mono {P : Cl} {Q : Lw} {sc : Sc} {m' : Nat} {as : List Value} {w : Wd} {R R' : Option Value → Wd → Prop} (h : lal P Q sc m' as w R) (hq : ∀ v s', R v s' → R' v s') : lal P Q sc m' as w R' := by
  obtain ⟨f, v, s', h1, h2⟩ := h; exact ⟨f, v, s', h1, hq _ _ h2⟩
theorem lalI.mono {P : Cl} {Q : Lw} {sc : Sc} {m' : Nat} {as : List Value} {w : Wd} {R R' : Int32 → Wd → Prop} (h : lalI P Q sc m' as w R) (hq : ∀ v s', R v s' → R' v s') : lalI P Q sc m' as w R' := lal.mono h fun _ _ ⟨v, e, q⟩ => ⟨v, e, hq _ _ q⟩
theorem lalL.mono {P : Cl} {Q : Lw} {sc : Sc} {m' : Nat} {as : List Value} {w : Wd} {R R' : Int64 → Wd → Prop} (h : lalL P Q sc m' as w R) (hq : ∀ v s', R v s' → R' v s') : lalL P Q sc m' as w R' := lal.mono h fun _ _ ⟨v, e, q⟩ => ⟨v, e, hq _ _ q⟩
theorem lalV.mono {P : Cl} {Q : Lw} {sc : Sc} {m' : Nat} {as : List Value} {w : Wd} {R R' : Wd → Prop} (h : lalV P Q sc m' as w R) (hq : ∀ s', R s' → R' s') : lalV P Q sc m' as w R' := lal.mono h fun _ _ ⟨e, q⟩ => ⟨e, hq _ q⟩
theorem wpl.mono {P : Cl} {Q : Lw} {sc : Sc} {mi : Nat} {me : Me} {pc : Nat} {ls : Lv} {st : List Value} {w : Wd} {R R' : Option Value → Wd → Prop} (h : wpl P Q sc mi me pc ls st w R) (hq : ∀ v s', R v s' → R' v s') : wpl P Q sc mi me pc ls st w R' := by
  obtain ⟨f, v, s', h1, h2⟩ := h; exact ⟨f, v, s', h1, hq _ _ h2⟩
theorem wpl_one {P : Cl} {Q : Lw} {sc : Sc} {mi : Nat} {me : Me} {pc pc' : Nat} {ls ls' : Lv} {st st' : List Value} {w w' : Wd} {R : Option Value → Wd → Prop} {i : Instr} {n : Nat} (hf : fetch me.cd pc = some (i, n))
    (h : ∀ (rt : Option Value → Wd → Rw) cc cl (k : Nat → Lv → List Value → Wd → Rw), lstep P Q sc mi me rt cc cl k i pc ls st w = k pc' ls' st' w') (hq : wpl P Q sc mi me pc' ls' st' w' R) : wpl P Q sc mi me pc ls st w R := by
  obtain ⟨f, v, s2, h1, h2⟩ := hq
  refine ⟨f + 1, v, s2, ?_, h2⟩
  rw [lexec, hf]; dsimp only; rw [h]; exact h1
/-- plain steps: nothing of the heap, no call -/
def isPl : Instr → Bool
  | .iaload => false | .arraylength => false | .ldc _ => false | .ldc2_w _ => false | .new _ => false | .invokespecial _ => false | .invokevirtual _ => false | .invokestatic _ => false
  | .ireturn => false | .lreturn => false | .return_ => false
  | _ => true
theorem lstep_pl {α : Type} {P : Cl} {Q : Lw} {sc : Sc} {mi : Nat} {me : Me} {rt : Option Value → Wd → Option α} {cc : Nat → Nat → List Value → St → Rs} {cl : Nat → List Value → Wd → Rw} {k : Nat → Lv → List Value → Wd → Option α} {i : Instr} {pc : Nat} {ls : Lv} {st : List Value} {w : Wd} (hi : isPl i = true) :
    lstep P Q sc mi me rt cc cl k i pc ls st w = match pstep i pc ls st with | some (pc', ls', st') => k pc' ls' st' w | none => none := by
  cases i <;> first | (cases hi; done) | rfl
def psl (kx : List (Nat × Value)) (cd : Cd) : Nat → Nat → Lv → List Value → Option (Nat × Lv × List Value)
  | 0, pc, ls, st => some (pc, ls, st)
  | n + 1, pc, ls, st => match fetch cd pc with
    | none => none
    | some (i, _) => match i with
      | .ldc x => (match asc kx x with | some (.int z) => psl kx cd n (pc + 2) ls (.int z :: st) | _ => none)
      | .ldc2_w x => (match asc kx x with | some (.long z) => psl kx cd n (pc + 3) ls (.long z :: st) | _ => none)
      | i => if isPl i = true then (match pstep i pc ls st with | some (pc', ls', st') => psl kx cd n pc' ls' st' | none => none) else none
theorem wpl_sl {P : Cl} {Q : Lw} {sc : Sc} {mi : Nat} {me : Me} {w : Wd} {R : Option Value → Wd → Prop} : ∀ {n pc pc' : Nat} {ls ls' : Lv} {st st' : List Value}, psl Q.kx me.cd n pc ls st = some (pc', ls', st') → wpl P Q sc mi me pc' ls' st' w R → wpl P Q sc mi me pc ls st w R := by
  intro n
  induction n with
  | zero => intro pc pc' ls ls' st st' h hq; cases h; exact hq
  | succ n ih =>
    intro pc pc' ls ls' st st' h hq
    simp only [psl] at h
    split at h
    · cases h
    · rename_i i m hf
      split at h
      · split at h
        · rename_i z e
          exact wpl_one hf (fun rt cc cl k => by simp only [lstep, e]) (ih h hq)
        · cases h
      · split at h
        · rename_i z e
          exact wpl_one hf (fun rt cc cl k => by simp only [lstep, e]) (ih h hq)
        · cases h
      · split at h
        · rename_i hi
          split at h
          · rename_i pc1 ls1 st1 e
            exact wpl_one hf (fun rt cc cl k => by rw [lstep_pl hi, e]) (ih h hq)
          · cases h
        · cases h
theorem wpl_ret {P : Cl} {Q : Lw} {sc : Sc} {mi : Nat} {me : Me} {pc : Nat} {ls : Lv} {st : List Value} {w : Wd} {R : Option Value → Wd → Prop} {i : Instr} {n : Nat} {v : Option Value} (hf : fetch me.cd pc = some (i, n)) (hr : isRet i = true) (h : cret me st i = some v) (hq : R v w) : wpl P Q sc mi me pc ls st w R := by
  refine ⟨1, v, w, ?_, hq⟩
  rw [lexec, hf]; dsimp only
  cases i <;> first | (cases hr; done) | (simp only [lstep]; rw [if_pos hr, h])
theorem wpl_if {P : Cl} {Q : Lw} {sc : Sc} {mi : Nat} {me : Me} {pc a b : Nat} {ls : Lv} {r : List Value} {w : Wd} {R : Option Value → Wd → Prop} {cd : ClassFile.Cond} {o : Int} {n : Nat} {x : Int32} (hf : fetch me.cd pc = some (.ifCond cd o, n)) (ho : 0 ≤ (pc : Int) + o) (ha : jmp pc o = a) (hb : pc + 3 = b)
    (hq : wpl P Q sc mi me (br cd x 0 a b) ls r w R) : wpl P Q sc mi me pc ls (.int x :: r) w R := by
  subst ha hb
  refine wpl_one hf (fun rt cc cl k => ?_) hq
  rw [lstep_pl rfl]
  simp only [pstep, qstep]; rw [if_pos ho]
theorem wpl_icmp {P : Cl} {Q : Lw} {sc : Sc} {mi : Nat} {me : Me} {pc a b : Nat} {ls : Lv} {r : List Value} {w : Wd} {R : Option Value → Wd → Prop} {cd : ClassFile.Cond} {o : Int} {n : Nat} {x y : Int32} (hf : fetch me.cd pc = some (.if_icmp cd o, n)) (ho : 0 ≤ (pc : Int) + o) (ha : jmp pc o = a) (hb : pc + 3 = b)
    (hq : wpl P Q sc mi me (br cd x y a b) ls r w R) : wpl P Q sc mi me pc ls (.int y :: .int x :: r) w R := by
  subst ha hb
  refine wpl_one hf (fun rt cc cl k => ?_) hq
  rw [lstep_pl rfl]
  simp only [pstep, qstep]; rw [if_pos ho]
theorem wpl_br {P : Cl} {Q : Lw} {sc : Sc} {mi : Nat} {me : Me} {a b : Nat} {ls : Lv} {st : List Value} {w : Wd} {R : Option Value → Wd → Prop} {p : Prop} [Decidable p] (h : (p → wpl P Q sc mi me a ls st w R) ∧ (¬ p → wpl P Q sc mi me b ls st w R)) : wpl P Q sc mi me (if p then a else b) ls st w R := by
  by_cases hp : p
  · rw [if_pos hp]; exact h.1 hp
  · rw [if_neg hp]; exact h.2 hp
theorem wpl_lda {P : Cl} {Q : Lw} {N : Nat} {g : Nat → Int32} {mi : Nat} {me : Me} {pc : Nat} {ls : Lv} {r : List Value} {w : Wd} {R : Option Value → Wd → Prop} {n : Nat} {j : Int32} (hf : fetch me.cd pc = some (.iaload, n)) (hj : inb N j) (hq : wpl P Q (some (N, g)) mi me (pc + 1) ls (.int (g (ix j)) :: r) w R) : wpl P Q (some (N, g)) mi me pc ls (.int j :: .ref 0 :: r) w R := by
  refine wpl_one hf (fun rt cc cl k => ?_) hq
  simp only [lstep]; rw [if_pos hj]
theorem wpl_len {P : Cl} {Q : Lw} {N : Nat} {g : Nat → Int32} {mi : Nat} {me : Me} {pc : Nat} {ls : Lv} {r : List Value} {w : Wd} {R : Option Value → Wd → Prop} {n : Nat} (hf : fetch me.cd pc = some (.arraylength, n)) (hq : wpl P Q (some (N, g)) mi me (pc + 1) ls (.int (Int32.ofNat N) :: r) w R) : wpl P Q (some (N, g)) mi me pc ls (.ref 0 :: r) w R := by
  refine wpl_one hf (fun rt cc cl k => ?_) hq
  simp only [lstep]
theorem wpl_new {P : Cl} {Q : Lw} {sc : Sc} {me : Me} {pc cnt : Nat} {ls : Lv} {st : List Value} {os : Nat → St} {R : Option Value → Wd → Prop} {n x : Nat} (hf : fetch me.cd pc = some (.new x, n)) (hx : x = Q.cx) (h1 : (cnt + 1) * (P.al.length + 1) ≤ Q.rc) (h2 : (cnt + 1) * (Q.nf + zs P.al P.al.length) ≤ Q.rs)
    (hq : wpl P Q sc 0 me (pc + 3) ls (.ref (cnt + 1) :: st) (uo os cnt s0, cnt, true) R) : wpl P Q sc 0 me pc ls st (os, cnt, false) R := by
  refine wpl_one hf (fun rt cc cl k => ?_) hq
  simp only [lstep]; rw [if_pos ⟨trivial, hx, trivial, h1, h2⟩]
theorem wpl_ctor {P : Cl} {Q : Lw} {sc : Sc} {me me' : Me} {pc cnt : Nat} {ls : Lv} {st r as : List Value} {os : Nat → St} {R : Option Value → Wd → Prop} {n x : Nat} (hf : fetch me.cd pc = some (.invokespecial x, n)) (hx : x = Q.ci) (hme : asc P.ms 0 = some me') (hst : st.drop me'.na = .ref (cnt + 1) :: r) (has : (st.take me'.na).reverse = as)
    (hg : me'.rf + 1 ≤ me.rf ∧ cats r + (me'.ml + 11) + me'.rl ≤ me.rl ∧ nr (st.take me'.na) = true ∧ (cnt + 1) * (P.al.length + 1) ≤ Q.rc ∧ (cnt + 1) * (Q.nf + zs P.al P.al.length) ≤ Q.rs)
    (hq : calV P 0 0 (.ref 0 :: as) (os cnt) fun s' => wpl P Q sc 0 me (pc + 3) ls r (uo os cnt s', cnt + 1, false) R) : wpl P Q sc 0 me pc ls st (os, cnt, true) R := by
  subst has
  obtain ⟨f1, v, s1, h1, rfl, f2, v2, s2, h2, h3⟩ := hq
  refine ⟨max f1 f2 + 1, v2, s2, ?_, h3⟩
  have h1' := ccall_le (Nat.le_max_left f1 f2) h1
  have h2' := lexec_le (Nat.le_max_right f1 f2) h2
  rw [lexec, hf]; dsimp only
  simp only [lstep, hme, hst]
  rw [if_pos ⟨hx, trivial, trivial, trivial, hg⟩, h1']
  exact h2'
theorem wpl_call {P : Cl} {Q : Lw} {sc : Sc} {mi : Nat} {me me' : Me} {pc x m' o : Nat} {ls : Lv} {st r as : List Value} {w : Wd} {R : Option Value → Wd → Prop} {n : Nat} (hf : fetch me.cd pc = some (.invokevirtual x, n)) (hm : asc Q.vx x = some m') (hme : asc P.ms m' = some me') (hst : st.drop me'.na = .ref (o + 1) :: r) (has : (st.take me'.na).reverse = as)
    (hg : m' ≠ 0 ∧ o < w.2.1 ∧ me'.rf + 1 ≤ me.rf ∧ cats r + (me'.ml + 11) + me'.rl ≤ me.rl ∧ nr (st.take me'.na) = true)
    (hq : cal P m' P.al.length (.ref 0 :: as) (w.1 o) fun v s' => wpl P Q sc mi me (pc + 3) ls (v.toList ++ r) (uo w.1 o s', w.2.1, w.2.2) R) : wpl P Q sc mi me pc ls st w R := by
  subst has
  obtain ⟨f1, v, s1, h1, f2, v2, s2, h2, h3⟩ := hq
  refine ⟨max f1 f2 + 1, v2, s2, ?_, h3⟩
  have h1' := ccall_le (Nat.le_max_left f1 f2) h1
  have h2' := lexec_le (Nat.le_max_right f1 f2) h2
  rw [lexec, hf]; dsimp only
  simp only [lstep, hm, hme, hst]
  rw [if_pos hg, h1']
  cases v <;> exact h2'
theorem wpl_stat {P : Cl} {Q : Lw} {sc : Sc} {mi : Nat} {me me' : Me} {pc x m' : Nat} {ls : Lv} {st r as : List Value} {w : Wd} {R : Option Value → Wd → Prop} {n : Nat} (hf : fetch me.cd pc = some (.invokestatic x, n)) (hm : asc Q.sx x = some m') (hme : asc Q.ms m' = some me') (hst : st.drop me'.na = r) (has : (st.take me'.na).reverse = as)
    (hg : m' ≠ 0 ∧ me'.na ≤ st.length ∧ me'.rf + 1 ≤ me.rf ∧ cats r + (me'.ml + 11) + me'.rl ≤ me.rl ∧ nd (st.take me'.na) = true)
    (hq : lal P Q sc m' as w fun v w' => wpl P Q sc mi me (pc + 3) ls (v.toList ++ r) w' R) : wpl P Q sc mi me pc ls st w R := by
  subst has hst
  obtain ⟨f1, v, s1, h1, f2, v2, s2, h2, h3⟩ := hq
  refine ⟨max f1 f2 + 1, v2, s2, ?_, h3⟩
  have h1' := lcall_le (Nat.le_max_left f1 f2) h1
  have h2' := lexec_le (Nat.le_max_right f1 f2) h2
  rw [lexec, hf]; dsimp only
  simp only [lstep, hm, hme]
  rw [if_pos hg]
  simp only [lcall, hme] at h1'
  rw [h1']
  cases v <;> exact h2'
theorem lal_of {P : Cl} {Q : Lw} {sc : Sc} {m' : Nat} {as : List Value} {w : Wd} {R : Option Value → Wd → Prop} {me : Me} {ls : Lv} (hme : asc Q.ms m' = some me) (hl : (layA as).length ≤ me.ml) (hls : lay as me.ml = ls) (h : wpl P Q sc m' me 0 ls [] w R) : lal P Q sc m' as w R := by
  subst hls
  obtain ⟨f, v, s', h1, h2⟩ := h
  refine ⟨f, v, s', ?_, h2⟩
  simp only [lcall, hme]; rw [if_pos hl]; exact h1
theorem lstep_lle {P : Cl} {Q : Lw} {sc : Sc} {mi : Nat} {me : Me} {rt : Option Value → Wd → Rw} {cc : Nat → Nat → List Value → St → Rs} {cl : Nat → List Value → Wd → Rw} {k : Nat → Lv → List Value → Wd → Rw} {i : Instr} {pc : Nat} {ls ls' : Lv} {st : List Value} {w : Wd} {r : Option Value × Wd} (hl : lle ls ls')
    (hk : ∀ pc ls ls' st s, lle ls ls' → k pc ls st s = some r → k pc ls' st s = some r) (h : lstep P Q sc mi me rt cc cl k i pc ls st w = some r) : lstep P Q sc mi me rt cc cl k i pc ls' st w = some r := by
  unfold lstep at h ⊢
  split at h
  all_goals (try dsimp only)
  · split at h
    · split at h
      · rename_i q; rw [if_pos q]; exact hk _ _ _ _ _ hl h
      · cases h
    · cases h
  iterate 3
    · split at h
      · exact hk _ _ _ _ _ hl h
      · cases h
  · split at h
    · rename_i q; rw [if_pos q]; exact hk _ _ _ _ _ hl h
    · cases h
  · split at h
    · cases h
    · split at h
      · split at h
        · rename_i q
          rw [if_pos q]
          split at h
          · exact hk _ _ _ _ _ hl h
          · cases h
        · cases h
      · cases h
  · split at h
    · cases h
    · split at h
      · cases h
      · split at h
        · split at h
          · rename_i q
            rw [if_pos q]
            split at h
            · exact hk _ _ _ _ _ hl h
            · exact hk _ _ _ _ _ hl h
            · cases h
          · cases h
        · cases h
  · split at h
    · cases h
    · split at h
      · cases h
      · split at h
        · rename_i q
          rw [if_pos q]
          split at h
          · exact hk _ _ _ _ _ hl h
          · exact hk _ _ _ _ _ hl h
          · cases h
        · cases h
  · split at h
    · rename_i q; rw [if_pos q]; exact h
    · rename_i q; rw [if_neg q]
      split at h
      · rename_i e
        obtain ⟨l1', q1, q2⟩ := pstep_lle e hl
        rw [q1]; exact hk _ _ _ _ _ q2 h
      · cases h
theorem lexec_lle {P : Cl} {Q : Lw} {sc : Sc} : ∀ f mi me pc ls ls' st w r, lle ls ls' → lexec P Q sc f mi me pc ls st w = some r → lexec P Q sc f mi me pc ls' st w = some r := by
  intro f
  induction f with
  | zero => intro mi me pc ls ls' st w r _ h; cases h
  | succ f ih =>
    intro mi me pc ls ls' st w r hl h
    rw [lexec] at h ⊢
    split at h
    · cases h
    · exact lstep_lle hl (fun pc ls ls' st s hl h => ih _ _ _ _ _ _ _ _ hl h) h
theorem wpl_lle {P : Cl} {Q : Lw} {sc : Sc} {mi : Nat} {me : Me} {pc : Nat} {ls ls' : Lv} {st : List Value} {w : Wd} {R : Option Value → Wd → Prop} (hl : lle' ls ls') (h : wpl P Q sc mi me pc ls st w R) : wpl P Q sc mi me pc ls' st w R := by
  obtain ⟨f, v, s', h1, h2⟩ := h; exact ⟨f, v, s', lexec_lle _ _ _ _ _ _ _ _ _ (lle_of hl) h1, h2⟩
/-! worlds of no, one and two objects -/
def W0 : Wd := (fun _ => s0, 0, false)
def W0p : Wd := (uo (fun _ => s0) 0 s0, 0, true)
def W1 (s : St) : Wd := (uo (fun _ => s0) 0 s, 1, false)
def W1p (s : St) : Wd := (uo (uo (fun _ => s0) 0 s) 1 s0, 1, true)
def W2 (s t : St) : Wd := (uo (uo (fun _ => s0) 0 s) 1 t, 2, false)
theorem uo_uo (f : Nat → St) (o : Nat) (s t : St) : uo (uo f o s) o t = uo f o t := by
  funext i; simp only [uo]; split <;> rfl
theorem uo_swap (f : Nat → St) {o o' : Nat} (h : o ≠ o') (s t : St) : uo (uo f o s) o' t = uo (uo f o' t) o s := by
  funext i; simp only [uo]
  by_cases a : i = o
  · subst a; simp [h]
  · by_cases b : i = o'
    · subst b; simp [Ne.symm h]
    · simp [a, b]
section Worlds
variable {P : Cl} {Q : Lw} {sc : Sc} {mi : Nat} {me me' : Me} {pc x m' : Nat} {ls : Lv} {st r as : List Value} {R : Option Value → Wd → Prop} {n : Nat} {s t : St}
theorem wpl_new0 (hf : fetch me.cd pc = some (.new x, n)) (hx : x = Q.cx) (h1 : 1 * (P.al.length + 1) ≤ Q.rc) (h2 : 1 * (Q.nf + zs P.al P.al.length) ≤ Q.rs) (hq : wpl P Q sc 0 me (pc + 3) ls (.ref 1 :: st) W0p R) : wpl P Q sc 0 me pc ls st W0 R := wpl_new (cnt := 0) hf hx h1 h2 hq
theorem wpl_new1 (hf : fetch me.cd pc = some (.new x, n)) (hx : x = Q.cx) (h1 : 2 * (P.al.length + 1) ≤ Q.rc) (h2 : 2 * (Q.nf + zs P.al P.al.length) ≤ Q.rs) (hq : wpl P Q sc 0 me (pc + 3) ls (.ref 2 :: st) (W1p s) R) : wpl P Q sc 0 me pc ls st (W1 s) R := wpl_new (cnt := 1) hf hx h1 h2 hq
theorem wpl_ctor0 (hf : fetch me.cd pc = some (.invokespecial x, n)) (hx : x = Q.ci) (hme : asc P.ms 0 = some me') (hst : st.drop me'.na = .ref 1 :: r) (has : (st.take me'.na).reverse = as)
    (hg : me'.rf + 1 ≤ me.rf ∧ cats r + (me'.ml + 11) + me'.rl ≤ me.rl ∧ nr (st.take me'.na) = true ∧ 1 * (P.al.length + 1) ≤ Q.rc ∧ 1 * (Q.nf + zs P.al P.al.length) ≤ Q.rs)
    (hq : calV P 0 0 (.ref 0 :: as) s0 fun s' => wpl P Q sc 0 me (pc + 3) ls r (W1 s') R) : wpl P Q sc 0 me pc ls st W0p R := by
  refine wpl_ctor (cnt := 0) hf hx hme hst has hg ?_
  refine calV.mono (show calV P 0 0 (.ref 0 :: as) (uo (fun _ => s0) 0 s0 0) _ from hq) fun s' h => ?_
  rw [uo_uo]; exact h
theorem wpl_ctor1 (hf : fetch me.cd pc = some (.invokespecial x, n)) (hx : x = Q.ci) (hme : asc P.ms 0 = some me') (hst : st.drop me'.na = .ref 2 :: r) (has : (st.take me'.na).reverse = as)
    (hg : me'.rf + 1 ≤ me.rf ∧ cats r + (me'.ml + 11) + me'.rl ≤ me.rl ∧ nr (st.take me'.na) = true ∧ 2 * (P.al.length + 1) ≤ Q.rc ∧ 2 * (Q.nf + zs P.al P.al.length) ≤ Q.rs)
    (hq : calV P 0 0 (.ref 0 :: as) s0 fun s' => wpl P Q sc 0 me (pc + 3) ls r (W2 s s') R) : wpl P Q sc 0 me pc ls st (W1p s) R := by
  refine wpl_ctor (cnt := 1) hf hx hme hst has hg ?_
  refine calV.mono (show calV P 0 0 (.ref 0 :: as) (uo (uo (fun _ => s0) 0 s) 1 s0 1) _ from hq) fun s' h => ?_
  rw [uo_uo]; exact h
theorem wpl_v1 (hf : fetch me.cd pc = some (.invokevirtual x, n)) (hm : asc Q.vx x = some m') (hme : asc P.ms m' = some me') (hst : st.drop me'.na = .ref 1 :: r) (has : (st.take me'.na).reverse = as)
    (hg : m' ≠ 0 ∧ me'.rf + 1 ≤ me.rf ∧ cats r + (me'.ml + 11) + me'.rl ≤ me.rl ∧ nr (st.take me'.na) = true)
    (hq : cal P m' P.al.length (.ref 0 :: as) s fun v s' => wpl P Q sc mi me (pc + 3) ls (v.toList ++ r) (W1 s') R) : wpl P Q sc mi me pc ls st (W1 s) R := by
  refine wpl_call (o := 0) hf hm hme hst has ⟨hg.1, by show 0 < 1; decide, hg.2⟩ ?_
  refine cal.mono (show cal P m' P.al.length (.ref 0 :: as) ((W1 s).1 0) _ from hq) fun v s' h => ?_
  show wpl P Q sc mi me (pc + 3) ls (v.toList ++ r) (uo (uo (fun _ => s0) 0 s) 0 s', 1, false) R
  rw [uo_uo]; exact h
theorem wpl_v2a (hf : fetch me.cd pc = some (.invokevirtual x, n)) (hm : asc Q.vx x = some m') (hme : asc P.ms m' = some me') (hst : st.drop me'.na = .ref 1 :: r) (has : (st.take me'.na).reverse = as)
    (hg : m' ≠ 0 ∧ me'.rf + 1 ≤ me.rf ∧ cats r + (me'.ml + 11) + me'.rl ≤ me.rl ∧ nr (st.take me'.na) = true)
    (hq : cal P m' P.al.length (.ref 0 :: as) s fun v s' => wpl P Q sc mi me (pc + 3) ls (v.toList ++ r) (W2 s' t) R) : wpl P Q sc mi me pc ls st (W2 s t) R := by
  refine wpl_call (o := 0) hf hm hme hst has ⟨hg.1, by show 0 < 2; decide, hg.2⟩ ?_
  refine cal.mono (show cal P m' P.al.length (.ref 0 :: as) ((W2 s t).1 0) _ from hq) fun v s' h => ?_
  show wpl P Q sc mi me (pc + 3) ls (v.toList ++ r) (uo (uo (uo (fun _ => s0) 0 s) 1 t) 0 s', 2, false) R
  rw [uo_swap _ (by decide), uo_uo]; exact h
theorem wpl_v2b (hf : fetch me.cd pc = some (.invokevirtual x, n)) (hm : asc Q.vx x = some m') (hme : asc P.ms m' = some me') (hst : st.drop me'.na = .ref 2 :: r) (has : (st.take me'.na).reverse = as)
    (hg : m' ≠ 0 ∧ me'.rf + 1 ≤ me.rf ∧ cats r + (me'.ml + 11) + me'.rl ≤ me.rl ∧ nr (st.take me'.na) = true)
    (hq : cal P m' P.al.length (.ref 0 :: as) t fun v s' => wpl P Q sc mi me (pc + 3) ls (v.toList ++ r) (W2 s s') R) : wpl P Q sc mi me pc ls st (W2 s t) R := by
  refine wpl_call (o := 1) hf hm hme hst has ⟨hg.1, by show 1 < 2; decide, hg.2⟩ ?_
  refine cal.mono (show cal P m' P.al.length (.ref 0 :: as) ((W2 s t).1 1) _ from hq) fun v s' h => ?_
  show wpl P Q sc mi me (pc + 3) ls (v.toList ++ r) (uo (uo (uo (fun _ => s0) 0 s) 1 t) 1 s', 2, false) R
  rw [uo_uo]; exact h
end Worlds
theorem cal_I {P : Cl} {m' c : Nat} {as : List Value} {s : St} {F : Option Value → St → Prop} (h : calI P m' c as s fun v s' => F (some (.int v)) s') : cal P m' c as s F := cal.mono h fun _ _ ⟨v, e, q⟩ => by subst e; exact q
theorem cal_L {P : Cl} {m' c : Nat} {as : List Value} {s : St} {F : Option Value → St → Prop} (h : calL P m' c as s fun v s' => F (some (.long v)) s') : cal P m' c as s F := cal.mono h fun _ _ ⟨v, e, q⟩ => by subst e; exact q
theorem cal_V {P : Cl} {m' c : Nat} {as : List Value} {s : St} {F : Option Value → St → Prop} (h : calV P m' c as s fun s' => F none s') : cal P m' c as s F := cal.mono h fun _ _ ⟨e, q⟩ => by subst e; exact q
theorem lal_I {P : Cl} {Q : Lw} {sc : Sc} {m' : Nat} {as : List Value} {w : Wd} {F : Option Value → Wd → Prop} (h : lalI P Q sc m' as w fun v w' => F (some (.int v)) w') : lal P Q sc m' as w F := lal.mono h fun _ _ ⟨v, e, q⟩ => by subst e; exact q
theorem lal_L {P : Cl} {Q : Lw} {sc : Sc} {m' : Nat} {as : List Value} {w : Wd} {F : Option Value → Wd → Prop} (h : lalL P Q sc m' as w fun v w' => F (some (.long v)) w') : lal P Q sc m' as w F := lal.mono h fun _ _ ⟨v, e, q⟩ => by subst e; exact q
theorem lal_V {P : Cl} {Q : Lw} {sc : Sc} {m' : Nat} {as : List Value} {w : Wd} {F : Option Value → Wd → Prop} (h : lalV P Q sc m' as w fun w' => F none w') : lal P Q sc m' as w F := lal.mono h fun _ _ ⟨e, q⟩ => by subst e; exact q
end Jvm.LM

namespace Jvm.LM
open Sem ClassFile Op Lib Jvm.Stand Jvm.Free Jvm.LawKit Jvm.RoadKit
/-! rules for the steps that ask something -/
abbrev wpcI (P : Cl) (mi : Nat) (me : Me) (c pc : Nat) (ls : Lv) (st : List Value) (s : St) (Q : Int32 → St → Prop) : Prop := wpc P mi me c pc ls st s fun r s' => ∃ v, r = some (.int v) ∧ Q v s'
abbrev wpcL (P : Cl) (mi : Nat) (me : Me) (c pc : Nat) (ls : Lv) (st : List Value) (s : St) (Q : Int64 → St → Prop) : Prop := wpc P mi me c pc ls st s fun r s' => ∃ v, r = some (.long v) ∧ Q v s'
abbrev wpcV (P : Cl) (mi : Nat) (me : Me) (c pc : Nat) (ls : Lv) (st : List Value) (s : St) (Q : St → Prop) : Prop := wpc P mi me c pc ls st s fun r s' => r = none ∧ Q s'
abbrev wplI (P : Cl) (Q : Lw) (sc : Sc) (mi : Nat) (me : Me) (pc : Nat) (ls : Lv) (st : List Value) (w : Wd) (R : Int32 → Wd → Prop) : Prop := wpl P Q sc mi me pc ls st w fun r w' => ∃ v, r = some (.int v) ∧ R v w'
abbrev wplL (P : Cl) (Q : Lw) (sc : Sc) (mi : Nat) (me : Me) (pc : Nat) (ls : Lv) (st : List Value) (w : Wd) (R : Int64 → Wd → Prop) : Prop := wpl P Q sc mi me pc ls st w fun r w' => ∃ v, r = some (.long v) ∧ R v w'
abbrev wplV (P : Cl) (Q : Lw) (sc : Sc) (mi : Nat) (me : Me) (pc : Nat) (ls : Lv) (st : List Value) (w : Wd) (R : Wd → Prop) : Prop := wpl P Q sc mi me pc ls st w fun r w' => r = none ∧ R w'
section C
variable {P : Cl} {mi : Nat} {me : Me} {c pc a N n : Nat} {ls : Lv} {r : List Value} {s s' : St} {Q : Option Value → St → Prop} {j : Int32}
theorem wpc_ldaI {v : Int32} (hf : fetch me.cd pc = some (.iaload, n)) (ha : P.al[a]? = some (0, N)) (hac : a < c) (hj : inb N j) (hv : gI s (a + 1) (ix j) = v) (hq : wpc P mi me c (pc + 1) ls (.int v :: r) s Q) : wpc P mi me c pc ls (.int j :: .ref (a + 1) :: r) s Q := by
  subst hv; exact wpc_lda hf (Or.inl ⟨rfl, rfl⟩) ha hac hj hq
theorem wpc_ldaZ {v : Int32} (hf : fetch me.cd pc = some (.baload, n)) (ha : P.al[a]? = some (1, N)) (hac : a < c) (hj : inb N j) (hv : gI s (a + 1) (ix j) = v) (hq : wpc P mi me c (pc + 1) ls (.int v :: r) s Q) : wpc P mi me c pc ls (.int j :: .ref (a + 1) :: r) s Q := by
  subst hv; exact wpc_lda hf (Or.inr (Or.inl ⟨rfl, rfl⟩)) ha hac hj hq
theorem wpc_ldaJ {v : Int64} (hf : fetch me.cd pc = some (.laload, n)) (ha : P.al[a]? = some (2, N)) (hac : a < c) (hj : inb N j) (hv : gL s (a + 1) (ix j) = v) (hq : wpc P mi me c (pc + 1) ls (.long v :: r) s Q) : wpc P mi me c pc ls (.int j :: .ref (a + 1) :: r) s Q := by
  subst hv; exact wpc_lda hf (Or.inr (Or.inr ⟨rfl, rfl⟩)) ha hac hj hq
theorem wpc_staI {z : Int32} (hf : fetch me.cd pc = some (.iastore, n)) (ha : P.al[a]? = some (0, N)) (hac : a < c) (hj : inb N j) (hs : sI s (a + 1) (ix j) z = s') (hq : wpc P mi me c (pc + 1) ls r s' Q) : wpc P mi me c pc ls (.int z :: .int j :: .ref (a + 1) :: r) s Q :=
  wpc_sta hf (Or.inl ⟨rfl, rfl, z, rfl, hs.symm⟩) ha hac hj hq
theorem wpc_staZ {z : Int32} (hf : fetch me.cd pc = some (.bastore, n)) (ha : P.al[a]? = some (1, N)) (hac : a < c) (hj : inb N j) (hs : sI s (a + 1) (ix j) (z &&& 1) = s') (hq : wpc P mi me c (pc + 1) ls r s' Q) : wpc P mi me c pc ls (.int z :: .int j :: .ref (a + 1) :: r) s Q :=
  wpc_sta hf (Or.inr (Or.inl ⟨rfl, rfl, z, rfl, hs.symm⟩)) ha hac hj hq
theorem wpc_staJ {z : Int64} (hf : fetch me.cd pc = some (.lastore, n)) (ha : P.al[a]? = some (2, N)) (hac : a < c) (hj : inb N j) (hs : sL s (a + 1) (ix j) z = s') (hq : wpc P mi me c (pc + 1) ls r s' Q) : wpc P mi me c pc ls (.long z :: .int j :: .ref (a + 1) :: r) s Q :=
  wpc_sta hf (Or.inr (Or.inr ⟨rfl, rfl, z, rfl, hs.symm⟩)) ha hac hj hq
theorem wpc_pl {i : Instr} {pc' : Nat} {ls' : Lv} {st st' : List Value} (hf : fetch me.cd pc = some (i, n)) (hi : ∀ (rt : Option Value → St → Rs) cl (k : Nat → Nat → Lv → List Value → St → Rs), cstep P mi me rt cl k i c pc ls st s = match pstep i pc ls st with | some (pc', ls', st') => k c pc' ls' st' s | none => none) (h : pstep i pc ls st = some (pc', ls', st')) (hq : wpc P mi me c pc' ls' st' s Q) : wpc P mi me c pc ls st s Q :=
  wpc_one hf (fun rt cl k => by rw [hi, h]) hq
theorem wpc_idiv {x y : Int32} (hf : fetch me.cd pc = some (.idiv, n)) (hy : ¬ y = 0) (hq : wpc P mi me c (pc + 1) ls (.int (x / y) :: r) s Q) : wpc P mi me c pc ls (.int y :: .int x :: r) s Q :=
  wpc_pl hf (fun _ _ _ => rfl) (by simp only [pstep, qstep]; rw [if_neg hy]) hq
theorem wpc_irem {x y : Int32} (hf : fetch me.cd pc = some (.irem, n)) (hy : ¬ y = 0) (hq : wpc P mi me c (pc + 1) ls (.int (x % y) :: r) s Q) : wpc P mi me c pc ls (.int y :: .int x :: r) s Q :=
  wpc_pl hf (fun _ _ _ => rfl) (by simp only [pstep, qstep]; rw [if_neg hy]) hq
theorem wpc_ldiv {x y : Int64} (hf : fetch me.cd pc = some (.ldiv, n)) (hy : ¬ y = 0) (hq : wpc P mi me c (pc + 1) ls (.long (x / y) :: r) s Q) : wpc P mi me c pc ls (.long y :: .long x :: r) s Q :=
  wpc_pl hf (fun _ _ _ => rfl) (by simp only [pstep, qstep]; rw [if_neg hy]) hq
end C
/-- the roads of a switch: one a value, from l on -/
def TS (x : Int32) (F : Int → Prop) : List Int → Int → Prop
  | [], _ => True
  | o :: r, l => (x.toInt = l → F o) ∧ TS x F r (l + 1)
theorem TS_at {x : Int32} {F : Int → Prop} : ∀ {os : List Int} {l : Int}, TS x F os l → l ≤ x.toInt → x.toInt < l + os.length → ∃ o, os[(x.toInt - l).toNat]? = some o ∧ F o := by
  intro os
  induction os with
  | nil => intro l _ h1 h2; simp at h2; omega
  | cons o r ih =>
    intro l h h1 h2
    by_cases e : x.toInt = l
    · exact ⟨o, by rw [e]; simp, h.1 e⟩
    · obtain ⟨o', q1, q2⟩ := ih h.2 (by omega) (by simp at h2; omega)
      refine ⟨o', ?_, q2⟩
      have : (x.toInt - l).toNat = (x.toInt - (l + 1)).toNat + 1 := by omega
      rw [this]; simpa using q1
theorem tsw_ok {x : Int32} {F : Int → Prop} {pc : Nat} {ls : Lv} {r : List Value} {d lo hi : Int} {offs : Array Int} (hd : 0 ≤ (pc : Int) + d) (ho : ∀ o ∈ offs.toList, 0 ≤ (pc : Int) + o) (hh : hi + 1 = lo + offs.toList.length)
    (h1 : TS x F offs.toList lo) (h2 : (x.toInt < lo ∨ x.toInt > hi) → F d) : ∃ o, F o ∧ pstep (.tableswitch d lo hi offs) pc ls (.int x :: r) = some (jmp pc o, ls, r) := by
  by_cases hx : x.toInt < lo ∨ x.toInt > hi
  · refine ⟨d, h2 hx, ?_⟩
    simp only [pstep, qstep]; rw [if_pos hx, if_pos hd]
  · obtain ⟨o, q1, q2⟩ := TS_at h1 (by omega) (by omega)
    have q3 : offs[(x.toInt - lo).toNat]? = some o := by rw [← Array.getElem?_toList]; exact q1
    refine ⟨o, q2, ?_⟩
    simp only [pstep, qstep]; rw [if_neg hx, q3]; dsimp only; rw [if_pos (ho o (List.mem_of_getElem? q1))]
theorem wpc_tsw {P : Cl} {mi : Nat} {me : Me} {c pc n : Nat} {ls : Lv} {r : List Value} {s : St} {Q : Option Value → St → Prop} {x : Int32} {d lo hi : Int} {offs : Array Int} (hf : fetch me.cd pc = some (.tableswitch d lo hi offs, n)) (hd : 0 ≤ (pc : Int) + d) (ho : ∀ o ∈ offs.toList, 0 ≤ (pc : Int) + o) (hh : hi + 1 = lo + offs.toList.length)
    (h1 : TS x (fun o => wpc P mi me c (jmp pc o) ls r s Q) offs.toList lo) (h2 : (x.toInt < lo ∨ x.toInt > hi) → wpc P mi me c (jmp pc d) ls r s Q) : wpc P mi me c pc ls (.int x :: r) s Q := by
  obtain ⟨o, q1, q2⟩ := tsw_ok (ls := ls) (r := r) hd ho hh h1 h2
  exact wpc_pl hf (fun _ _ _ => rfl) q2 q1
section L
variable {P : Cl} {Q : Lw} {sc : Sc} {mi : Nat} {me : Me} {pc n : Nat} {ls : Lv} {r : List Value} {w : Wd} {R : Option Value → Wd → Prop}
theorem wpl_pl {i : Instr} {pc' : Nat} {ls' : Lv} {st st' : List Value} (hf : fetch me.cd pc = some (i, n)) (hi : isPl i = true) (h : pstep i pc ls st = some (pc', ls', st')) (hq : wpl P Q sc mi me pc' ls' st' w R) : wpl P Q sc mi me pc ls st w R :=
  wpl_one hf (fun rt cc cl k => by rw [lstep_pl hi, h]) hq
theorem wpl_idiv {x y : Int32} (hf : fetch me.cd pc = some (.idiv, n)) (hy : ¬ y = 0) (hq : wpl P Q sc mi me (pc + 1) ls (.int (x / y) :: r) w R) : wpl P Q sc mi me pc ls (.int y :: .int x :: r) w R :=
  wpl_pl hf rfl (by simp only [pstep, qstep]; rw [if_neg hy]) hq
theorem wpl_irem {x y : Int32} (hf : fetch me.cd pc = some (.irem, n)) (hy : ¬ y = 0) (hq : wpl P Q sc mi me (pc + 1) ls (.int (x % y) :: r) w R) : wpl P Q sc mi me pc ls (.int y :: .int x :: r) w R :=
  wpl_pl hf rfl (by simp only [pstep, qstep]; rw [if_neg hy]) hq
theorem wpl_ldiv {x y : Int64} (hf : fetch me.cd pc = some (.ldiv, n)) (hy : ¬ y = 0) (hq : wpl P Q sc mi me (pc + 1) ls (.long (x / y) :: r) w R) : wpl P Q sc mi me pc ls (.long y :: .long x :: r) w R :=
  wpl_pl hf rfl (by simp only [pstep, qstep]; rw [if_neg hy]) hq
theorem wpl_tsw {x : Int32} {d lo hi : Int} {offs : Array Int} (hf : fetch me.cd pc = some (.tableswitch d lo hi offs, n)) (hd : 0 ≤ (pc : Int) + d) (ho : ∀ o ∈ offs.toList, 0 ≤ (pc : Int) + o) (hh : hi + 1 = lo + offs.toList.length)
    (h1 : TS x (fun o => wpl P Q sc mi me (jmp pc o) ls r w R) offs.toList lo) (h2 : (x.toInt < lo ∨ x.toInt > hi) → wpl P Q sc mi me (jmp pc d) ls r w R) : wpl P Q sc mi me pc ls (.int x :: r) w R := by
  obtain ⟨o, q1, q2⟩ := tsw_ok (ls := ls) (r := r) hd ho hh h1 h2
  exact wpl_pl hf rfl q2 q1
end L
/-! the links, by lists -/
def AllA {α : Type} (Q : Nat → α → Prop) : List (Nat × α) → Prop
  | [] => True
  | (a, b) :: r => Q a b ∧ AllA Q r
theorem asc_all {α : Type} {Q : Nat → α → Prop} {l : List (Nat × α)} (h : AllA Q l) : ∀ k v, asc l k = some v → Q k v := by
  induction l with
  | nil => intro k v e; cases e
  | cons x r ih =>
    intro k v e
    obtain ⟨a, b⟩ := x
    simp only [asc] at e
    cases q : Nat.beq a k
    · rw [q] at e; exact ih h.2 k v e
    · rw [q] at e; cases e
      obtain rfl := Nat.eq_of_beq_eq_true q
      exact h.1
def AllL (Q : Nat → Nat → Prop) : List (Nat × Nat) → Prop
  | [] => True
  | (a, b) :: r => Q a b ∧ AllL Q r
theorem lst_all {Q : Nat → Nat → Prop} {l : List (Nat × Nat)} (h : AllL Q l) : ∀ (j tt N : Nat), l[j]? = some (tt, N) → Q tt N := by
  induction l with
  | nil => intro j tt N e; simp at e
  | cons x r ih =>
    intro j tt N e
    obtain ⟨a, b⟩ := x
    cases j with
    | zero => simp at e; obtain ⟨rfl, rfl⟩ := e; exact h.1
    | succ j => simp at e; exact ih h.2 j tt N e
def dst1 (k : Nat) (fe : Fe) : List (Nat × Fe) → Bool
  | [] => true
  | (k', fe') :: r => (!(fe.1 == fe'.1)) && (decide (fe.2.2.1 < 3) || !(Nat.beq fe.2.2.1 fe'.2.2.1)) && dst1 k fe r
def dst : List (Nat × Fe) → Bool
  | [] => true
  | (k, fe) :: r => dst1 k fe r && dst r
theorem dst1_ok {k : Nat} {fe : Fe} {l : List (Nat × Fe)} (h : dst1 k fe l = true) : ∀ k' fe', asc l k' = some fe' → fe.1 ≠ fe'.1 ∧ (3 ≤ fe.2.2.1 → fe.2.2.1 ≠ fe'.2.2.1) := by
  induction l with
  | nil => intro k' fe' e; cases e
  | cons x r ih =>
    intro k' fe' e
    obtain ⟨a, b⟩ := x
    simp only [dst1, Bool.and_eq_true] at h
    obtain ⟨⟨h1, h2⟩, h3⟩ := h
    simp only [asc] at e
    cases q : Nat.beq a k'
    · rw [q] at e; exact ih h3 k' fe' e
    · rw [q] at e; cases e
      refine ⟨fun q2 => by rw [q2] at h1; simp at h1, fun q2 q3 => ?_⟩
      rw [q3] at h2 q2
      simp only [Bool.or_eq_true, decide_eq_true_eq, Bool.not_eq_true'] at h2
      rcases h2 with h2 | h2
      · omega
      · rw [Nat.beq_refl] at h2; cases h2
theorem dst_ok {l : List (Nat × Fe)} (h : dst l = true) : ∀ (k k' : Nat) (fe fe' : Fe), asc l k = some fe → asc l k' = some fe' → k ≠ k' → fe.1 ≠ fe'.1 ∧ (3 ≤ fe.2.2.1 → fe.2.2.1 ≠ fe'.2.2.1) := by
  induction l with
  | nil => intro k k' fe fe' e; cases e
  | cons x r ih =>
    intro k k' fe fe' e e' hne
    obtain ⟨a, b⟩ := x
    simp only [dst, Bool.and_eq_true] at h
    simp only [asc] at e e'
    cases q : Nat.beq a k <;> cases q' : Nat.beq a k' <;> rw [q] at e <;> rw [q'] at e'
    · exact ih h.2 k k' fe fe' e e' hne
    · cases e'
      obtain ⟨h1, h2⟩ := dst1_ok h.1 k fe e
      exact ⟨Ne.symm h1, fun z1 z2 => h2 (z2 ▸ z1) z2.symm⟩
    · cases e; exact dst1_ok h.1 k' fe' e'
    · exact absurd ((Nat.eq_of_beq_eq_true q).symm.trans (Nat.eq_of_beq_eq_true q')) hne
def chk (bytes : ByteArray) : Cd → Bool
  | [] => true
  | (pc, i, n) :: r => (match decode bytes pc with | .ok (i', n') => decide (i' = i ∧ n' = n) | .error _ => false) && (isSw i || Nat.beq n (ilen i)) && chk bytes r
theorem chk_ok {bytes : ByteArray} {cd : Cd} (h : chk bytes cd = true) : ∀ pc i n, fetch cd pc = some (i, n) → decode bytes pc = .ok (i, n) ∧ (isSw i = true ∨ n = ilen i) := by
  induction cd with
  | nil => intro pc i n e; cases e
  | cons x r ih =>
    intro pc i n e
    obtain ⟨a, i', n'⟩ := x
    simp only [chk, Bool.and_eq_true] at h
    obtain ⟨⟨h1, h2⟩, h3⟩ := h
    simp only [fetch] at e
    cases q : Nat.beq a pc
    · rw [q] at e; exact ih h3 pc i n e
    · rw [q] at e; cases e
      obtain rfl := Nat.eq_of_beq_eq_true q
      refine ⟨?_, ?_⟩
      · split at h1
        · rename_i i2 n2 hd
          obtain ⟨rfl, rfl⟩ := of_decide_eq_true h1
          exact hd
        · cases h1
      · simp only [Bool.or_eq_true] at h2
        exact h2.imp id Nat.eq_of_beq_eq_true
/-- the array that the law is handed -/
theorem script_of {s : State} {args : Array Value} {a : Addr} {cl : Cell} {t : Term} {k : Int32} (hf : Fit s) (A : Arr s s.heap a cl .int) (ev : t.eval args s none [] s = some (.ref a)) (hl : (Cond.le (Term.length t) (Term.int k)).value args s none s [] = some true) :
    (cl.slots.size < 2 ^ 31 ∧ (cl.slots.size : Int) ≤ k.toInt) ∧ SRep s s.heap a s.heap.size (some (cl.slots.size, fun i => match cl.slots[i]? with | some (.int x) => x | _ => 0)) := by
  obtain ⟨x, y, h1, h2, -⟩ := cmp_v (Or.inr (Or.inr hl))
  have hz : cl.slots.size < 2 ^ 31 := by
    have q : (Term.length t).eval args s none [] s = if cl.slots.size < 2 ^ 31 then some (.int cl.slots.size.toInt32) else none := by simp [Term.eval, ev, A.fin (Vm.Alike.refl _)]
    rw [h1] at q
    split at q
    · assumption
    · cases q
  have h1' := len_f ev (A.fin (Vm.Alike.refl _)) hz (args := args) (first := s) (o := none) (idx := [])
  have hle := gotT (Cond.le_ints h1' (Term.int_eval k)) hl
  rw [Int32.le_iff_toInt_le, len_toInt hz] at hle
  refine ⟨⟨hz, hle⟩, A.lt, cl, A, rfl, fun i hi => ?_⟩
  have e1 : cl.slots[i]? = some cl.slots[i] := Array.getElem?_eq_getElem hi
  have q := elem_fit hf A (j := i.toInt32) (idx_in hi hz)
  have e2 : i.toInt32.toNatClampNeg = i := by
    have := len_toInt (n := i) (by omega)
    simp only [Int32.toNatClampNeg, this]; rfl
  rw [e2] at q
  obtain ⟨v, hv, hfv⟩ := q
  obtain ⟨x, rfl⟩ := fit_I hfv (Or.inl rfl)
  rw [hv]
  dsimp only
  rw [hv]
end Jvm.LM
namespace Jvm.LM
theorem law_run {P : Cl} {Q : Lw} {sc : Sc} {as : List Value} (h : lalI P Q sc 0 as W0 fun v _ => v = 1) {me : Me} (hme : asc Q.ms 0 = some me) : ∃ f w', lexec P Q sc f 0 me 0 (lay as me.ml) [] W0 = some (some (.int 1), w') := by
  obtain ⟨f, v, w', h1, v', rfl, rfl⟩ := h
  refine ⟨f, w', ?_⟩
  simp only [lcall, hme] at h1
  split at h1
  · exact h1
  · cases h1
end Jvm.LM

namespace Jvm.LM
open Jvm.RoadKit
/-! numbers -/
theorem i32_add {x y : Int32} (h1 : -2147483648 ≤ x.toInt + y.toInt) (h2 : x.toInt + y.toInt < 2147483648) : (x + y).toInt = x.toInt + y.toInt := by
  have := c_iadd x y; have := rng32 (x + y); omega
theorem i32_sub {x y : Int32} (h1 : -2147483648 ≤ x.toInt - y.toInt) (h2 : x.toInt - y.toInt < 2147483648) : (x - y).toInt = x.toInt - y.toInt := by
  have := c_isub x y; have := rng32 (x - y); omega
theorem i32_mul {x y : Int32} (h1 : -2147483648 ≤ x.toInt * y.toInt) (h2 : x.toInt * y.toInt < 2147483648) : (x * y).toInt = x.toInt * y.toInt := by
  have := c_imul x y; have := rng32 (x * y); omega
theorem ix_int {i : Int32} (h : 0 ≤ i.toInt) : (ix i : Int) = i.toInt := by simp only [ix, Int32.toNatClampNeg]; omega
theorem ix_inj {i j : Int32} (hi : 0 ≤ i.toInt) (hj : 0 ≤ j.toInt) : ix i = ix j ↔ i = j := by
  have a := ix_int hi; have b := ix_int hj
  rw [← Int32.toInt_inj]; omega
theorem i32_lt {x y : Int32} : x < y ↔ x.toInt < y.toInt := Int32.lt_iff_toInt_lt
theorem i32_eq {x y : Int32} : x = y ↔ x.toInt = y.toInt := Int32.toInt_inj.symm
/-- a loop that counts up to N: from the next turn to this one -/
theorem loop_up {F : Int32 → Prop} (N : Int) (hN : N < 2147483647) (step : ∀ i, 0 ≤ i.toInt → i.toInt < N → (i + 1).toInt = i.toInt + 1 → F (i + 1) → F i) (last : ∀ i, i.toInt = N → F i) : ∀ i, 0 ≤ i.toInt → i.toInt ≤ N → F i := by
  have key : ∀ n : Nat, ∀ i : Int32, 0 ≤ i.toInt → i.toInt + n = N → F i := by
    intro n
    induction n with
    | zero => intro i h0 h1; exact last i (by omega)
    | succ n ih =>
      intro i h0 h1
      have e : (i + 1).toInt = i.toInt + 1 := i32_add (by simp; omega) (by simp; omega)
      exact step i h0 (by omega) e (ih (i + 1) (by omega) (by omega))
  intro i h0 h1
  exact key (N - i.toInt).toNat i h0 (by omega)
theorem cmpL_lt {x y : Int64} : Jvm.Free.XT.cmpL x y < 0 ↔ x < y := by
  unfold Jvm.Free.XT.cmpL; split
  · rename_i h; exact ⟨fun q => absurd q (by decide), fun q => by rw [Int64.lt_iff_toInt_lt] at h q; omega⟩
  · split
    · rename_i h; subst h; exact ⟨fun q => absurd q (by decide), fun q => by rw [Int64.lt_iff_toInt_lt] at q; omega⟩
    · rename_i h1 h2
      refine ⟨fun _ => ?_, fun _ => by decide⟩
      rw [Int64.lt_iff_toInt_lt] at h1 ⊢; rw [← Int64.toInt_inj] at h2; omega
theorem cmpL_gt {x y : Int64} : 0 < Jvm.Free.XT.cmpL x y ↔ y < x := by
  unfold Jvm.Free.XT.cmpL; split
  · rename_i h; exact ⟨fun _ => h, fun _ => by decide⟩
  · rename_i h; split
    · exact ⟨fun q => absurd q (by decide), fun q => absurd q h⟩
    · exact ⟨fun q => absurd q (by decide), fun q => absurd q h⟩
theorem cmpL_eq {x y : Int64} : Jvm.Free.XT.cmpL x y = 0 ↔ x = y := by
  unfold Jvm.Free.XT.cmpL; split
  · rename_i h; exact ⟨fun q => absurd q (by decide), fun q => by subst q; rw [Int64.lt_iff_toInt_lt] at h; omega⟩
  · split
    · rename_i h; exact ⟨fun _ => h, fun _ => rfl⟩
    · rename_i h1 h2; exact ⟨fun q => absurd q (by decide), fun q => absurd q h2⟩
end Jvm.LM

namespace Jvm.Pilot.@@N@@
open Jvm Jvm.ClassFile Sem Op Lib Jvm.Free Jvm.Stand Jvm.LawKit Jvm.RoadKit Jvm.LM Bundle Jvm.Pilot.@@N@@.Jvm.D
def cm0 : Me := ("<init>", "(III)V", 3, 0, [(0, .aload_n 0, 1), (1, .invokespecial 1, 3), (4, .aload_n 0, 1), (5, .sipush 128, 3), (8, .newarray .int, 2), (10, .putfield 7, 3), (13, .aload_n 0, 1), (14, .bipush 32, 2), (16, .newarray .boolean, 2), (18, .putfield 13, 3), (21, .aload_n 0, 1), (22, .bipush 32, 2), (24, .newarray .int, 2), (26, .putfield 17, 3), (29, .aload_n 0, 1), (30, .bipush 8, 2), (32, .newarray .int, 2), (34, .putfield 20, 3), (37, .aload_n 0, 1), (38, .bipush 8, 2), (40, .newarray .boolean, 2), (42, .putfield 23, 3), (45, .aload_n 0, 1), (46, .bipush 8, 2), (48, .newarray .boolean, 2), (50, .putfield 26, 3), (53, .aload_n 0, 1), (54, .bipush 8, 2), (56, .newarray .boolean, 2), (58, .putfield 29, 3), (61, .aload_n 0, 1), (62, .bipush 8, 2), (64, .newarray .boolean, 2), (66, .putfield 32, 3), (69, .aload_n 0, 1), (70, .bipush 8, 2), (72, .newarray .int, 2), (74, .putfield 35, 3), (77, .aload_n 0, 1), (78, .bipush 16, 2), (80, .newarray .int, 2), (82, .putfield 38, 3), (85, .aload_n 0, 1), (86, .bipush 16, 2), (88, .newarray .int, 2), (90, .putfield 41, 3), (93, .aload_n 0, 1), (94, .bipush 16, 2), (96, .newarray .boolean, 2), (98, .putfield 44, 3), (101, .aload_n 0, 1), (102, .iconst 4, 1), (103, .newarray .int, 2), (105, .putfield 47, 3), (108, .aload_n 0, 1), (109, .iconst 4, 1), (110, .newarray .int, 2), (112, .putfield 50, 3), (115, .aload_n 0, 1), (116, .iconst 4, 1), (117, .newarray .int, 2), (119, .putfield 53, 3), (122, .aload_n 0, 1), (123, .iconst 4, 1), (124, .newarray .int, 2), (126, .putfield 56, 3), (129, .aload_n 0, 1), (130, .aload_n 0, 1), (131, .iload_n 1, 1), (132, .bipush 8, 2), (134, .bipush 32, 2), (136, .invokevirtual 59, 3), (139, .putfield 63, 3), (142, .aload_n 0, 1), (143, .aload_n 0, 1), (144, .iload_n 2, 1), (145, .iconst 2, 1), (146, .bipush 8, 2), (148, .invokevirtual 59, 3), (151, .putfield 67, 3), (154, .aload_n 0, 1), (155, .aload_n 0, 1), (156, .iload_n 3, 1), (157, .iconst 1, 1), (158, .iconst 4, 1), (159, .invokevirtual 59, 3), (162, .putfield 70, 3), (165, .iconst 0, 1), (166, .istore 4, 2), (168, .iload 4, 2), (170, .bipush 32, 2), (172, .if_icmp .ge 17, 3), (175, .aload_n 0, 1), (176, .getfield 13, 3), (179, .iload 4, 2), (181, .iconst 1, 1), (182, .bastore, 1), (183, .iinc 4 1, 3), (186, .goto (-18), 3), (189, .iconst 0, 1), (190, .istore 4, 2), (192, .iload 4, 2), (194, .bipush 8, 2), (196, .if_icmp .ge 17, 3), (199, .aload_n 0, 1), (200, .getfield 20, 3), (203, .iload 4, 2), (205, .iconst (-1), 1), (206, .iastore, 1), (207, .iinc 4 1, 3), (210, .goto (-18), 3), (213, .iconst 0, 1), (214, .istore 4, 2), (216, .iload 4, 2), (218, .iconst 4, 1), (219, .if_icmp .ge 26, 3), (222, .aload_n 0, 1), (223, .getfield 47, 3), (226, .iload 4, 2), (228, .bipush (-5), 2), (230, .iastore, 1), (231, .aload_n 0, 1), (232, .getfield 56, 3), (235, .iload 4, 2), (237, .iconst (-1), 1), (238, .iastore, 1), (239, .iinc 4 1, 3), (242, .goto (-26), 3), (245, .aload_n 0, 1), (246, .iconst 0, 1), (247, .putfield 73, 3), (250, .aload_n 0, 1), (251, .iconst 0, 1), (252, .putfield 76, 3), (255, .aload_n 0, 1), (256, .iconst 0, 1), (257, .putfield 79, 3), (260, .return_, 1)], 5, 1, 16)
def cm5 : Me := ("read", "(III)I", 3, 1, [(0, .aload_n 0, 1), (1, .iload_n 1, 1), (2, .invokevirtual 82, 3), (5, .ifCond .eq 6, 3), (8, .bipush (-2), 2), (10, .ireturn, 1), (11, .aload_n 0, 1), (12, .iload_n 2, 1), (13, .invokevirtual 86, 3), (16, .ifCond .eq 6, 3), (19, .bipush (-3), 2), (21, .ireturn, 1), (22, .aload_n 0, 1), (23, .iload_n 3, 1), (24, .invokevirtual 89, 3), (27, .ifCond .eq 6, 3), (30, .bipush (-4), 2), (32, .ireturn, 1), (33, .aload_n 0, 1), (34, .iload_n 1, 1), (35, .iload_n 2, 1), (36, .iconst 1, 1), (37, .invokevirtual 92, 3), (40, .istore 4, 2), (42, .aload_n 0, 1), (43, .iload 4, 2), (45, .iload_n 2, 1), (46, .iload_n 3, 1), (47, .invokevirtual 96, 3), (50, .istore 5, 2), (52, .aload_n 0, 1), (53, .iload 4, 2), (55, .invokevirtual 99, 3), (58, .aload_n 0, 1), (59, .getfield 47, 3), (62, .iload_n 1, 1), (63, .iload 5, 2), (65, .iastore, 1), (66, .aload_n 0, 1), (67, .getfield 50, 3), (70, .iload_n 1, 1), (71, .aload_n 0, 1), (72, .getfield 50, 3), (75, .iload_n 1, 1), (76, .iaload, 1), (77, .iconst 1, 1), (78, .iadd, 1), (79, .iastore, 1), (80, .iload 5, 2), (82, .ireturn, 1)], 6, 4, 66)
def cm6 : Me := ("write", "(IIII)I", 4, 1, [(0, .aload_n 0, 1), (1, .iload_n 1, 1), (2, .invokevirtual 82, 3), (5, .ifCond .eq 6, 3), (8, .bipush (-2), 2), (10, .ireturn, 1), (11, .aload_n 0, 1), (12, .iload_n 2, 1), (13, .invokevirtual 86, 3), (16, .ifCond .eq 6, 3), (19, .bipush (-3), 2), (21, .ireturn, 1), (22, .aload_n 0, 1), (23, .iload_n 3, 1), (24, .invokevirtual 89, 3), (27, .ifCond .eq 6, 3), (30, .bipush (-4), 2), (32, .ireturn, 1), (33, .aload_n 0, 1), (34, .iload_n 1, 1), (35, .iload_n 2, 1), (36, .iconst 1, 1), (37, .invokevirtual 92, 3), (40, .istore 5, 2), (42, .aload_n 0, 1), (43, .iload 5, 2), (45, .iload_n 2, 1), (46, .iload_n 3, 1), (47, .iload 4, 2), (49, .ldc 103, 2), (51, .iand, 1), (52, .invokevirtual 104, 3), (55, .aload_n 0, 1), (56, .iload 5, 2), (58, .invokevirtual 108, 3), (61, .aload_n 0, 1), (62, .iload 5, 2), (64, .invokevirtual 99, 3), (67, .aload_n 0, 1), (68, .getfield 13, 3), (71, .iload_n 2, 1), (72, .iconst 0, 1), (73, .bastore, 1), (74, .aload_n 0, 1), (75, .getfield 53, 3), (78, .iload_n 1, 1), (79, .aload_n 0, 1), (80, .getfield 53, 3), (83, .iload_n 1, 1), (84, .iaload, 1), (85, .iconst 1, 1), (86, .iadd, 1), (87, .iastore, 1), (88, .iconst 0, 1), (89, .ireturn, 1)], 6, 4, 66)
def cm7 : Me := ("fill", "(III)I", 3, 1, [(0, .aload_n 0, 1), (1, .iload_n 1, 1), (2, .invokevirtual 82, 3), (5, .ifCond .eq 6, 3), (8, .bipush (-2), 2), (10, .ireturn, 1), (11, .aload_n 0, 1), (12, .iload_n 2, 1), (13, .invokevirtual 86, 3), (16, .ifCond .eq 6, 3), (19, .bipush (-3), 2), (21, .ireturn, 1), (22, .iload_n 3, 1), (23, .ldc 103, 2), (25, .iand, 1), (26, .istore 4, 2), (28, .aload_n 0, 1), (29, .iload_n 1, 1), (30, .iload_n 2, 1), (31, .iconst 0, 1), (32, .invokevirtual 92, 3), (35, .istore 5, 2), (37, .iconst 0, 1), (38, .istore 6, 2), (40, .iload 6, 2), (42, .iconst 4, 1), (43, .if_icmp .ge 20, 3), (46, .aload_n 0, 1), (47, .iload 5, 2), (49, .iload_n 2, 1), (50, .iload 6, 2), (52, .iload 4, 2), (54, .invokevirtual 104, 3), (57, .iinc 6 1, 3), (60, .goto (-20), 3), (63, .aload_n 0, 1), (64, .iload 5, 2), (66, .invokevirtual 111, 3), (69, .aload_n 0, 1), (70, .iload 5, 2), (72, .invokevirtual 99, 3), (75, .aload_n 0, 1), (76, .getfield 13, 3), (79, .iload_n 2, 1), (80, .iconst 0, 1), (81, .bastore, 1), (82, .aload_n 0, 1), (83, .getfield 53, 3), (86, .iload_n 1, 1), (87, .aload_n 0, 1), (88, .getfield 53, 3), (91, .iload_n 1, 1), (92, .iaload, 1), (93, .iconst 1, 1), (94, .iadd, 1), (95, .iastore, 1), (96, .iconst 0, 1), (97, .ireturn, 1)], 7, 4, 66)
def cm8 : Me := ("copyBlock", "(III)I", 3, 1, [(0, .aload_n 0, 1), (1, .iload_n 1, 1), (2, .invokevirtual 82, 3), (5, .ifCond .eq 6, 3), (8, .bipush (-2), 2), (10, .ireturn, 1), (11, .aload_n 0, 1), (12, .iload_n 2, 1), (13, .invokevirtual 86, 3), (16, .ifCond .eq 6, 3), (19, .bipush (-3), 2), (21, .ireturn, 1), (22, .aload_n 0, 1), (23, .iload_n 3, 1), (24, .invokevirtual 86, 3), (27, .ifCond .eq 6, 3), (30, .bipush (-3), 2), (32, .ireturn, 1), (33, .aload_n 0, 1), (34, .iload_n 1, 1), (35, .iload_n 2, 1), (36, .iconst 1, 1), (37, .invokevirtual 92, 3), (40, .istore 4, 2), (42, .iload_n 2, 1), (43, .iload_n 3, 1), (44, .if_icmp .ne 18, 3), (47, .aload_n 0, 1), (48, .iload 4, 2), (50, .invokevirtual 108, 3), (53, .aload_n 0, 1), (54, .iload 4, 2), (56, .invokevirtual 99, 3), (59, .goto 12, 3), (62, .aload_n 0, 1), (63, .iload_n 1, 1), (64, .iload 4, 2), (66, .iload_n 2, 1), (67, .iload_n 3, 1), (68, .invokevirtual 114, 3), (71, .aload_n 0, 1), (72, .getfield 13, 3), (75, .iload_n 3, 1), (76, .iconst 0, 1), (77, .bastore, 1), (78, .aload_n 0, 1), (79, .getfield 50, 3), (82, .iload_n 1, 1), (83, .aload_n 0, 1), (84, .getfield 50, 3), (87, .iload_n 1, 1), (88, .iaload, 1), (89, .iconst 1, 1), (90, .iadd, 1), (91, .iastore, 1), (92, .aload_n 0, 1), (93, .getfield 53, 3), (96, .iload_n 1, 1), (97, .aload_n 0, 1), (98, .getfield 53, 3), (101, .iload_n 1, 1), (102, .iaload, 1), (103, .iconst 1, 1), (104, .iadd, 1), (105, .iastore, 1), (106, .iconst 0, 1), (107, .ireturn, 1)], 5, 5, 87)
def cm9 : Me := ("step", "(I)V", 1, 0, [(0, .aload_n 0, 1), (1, .iload_n 1, 1), (2, .iconst 0, 1), (3, .bipush 64, 2), (5, .invokevirtual 59, 3), (8, .istore_n 2, 1), (9, .iconst 0, 1), (10, .istore_n 3, 1), (11, .iload_n 3, 1), (12, .iload_n 2, 1), (13, .if_icmp .ge 19, 3), (16, .aload_n 0, 1), (17, .invokevirtual 117, 3), (20, .ifCond .ne 6, 3), (23, .goto 9, 3), (26, .iinc 3 1, 3), (29, .goto (-18), 3), (32, .return_, 1)], 4, 2, 34)
def cm10 : Me := ("syncBlock", "(I)I", 1, 1, [(0, .aload_n 0, 1), (1, .iload_n 1, 1), (2, .invokevirtual 86, 3), (5, .ifCond .eq 6, 3), (8, .bipush (-3), 2), (10, .ireturn, 1), (11, .aload_n 0, 1), (12, .iload_n 1, 1), (13, .invokevirtual 121, 3), (16, .istore_n 2, 1), (17, .iload_n 2, 1), (18, .ifCond .lt 59, 3), (21, .aload_n 0, 1), (22, .iconst (-1), 1), (23, .iload_n 2, 1), (24, .invokevirtual 125, 3), (27, .aload_n 0, 1), (28, .getfield 26, 3), (31, .iload_n 2, 1), (32, .baload, 1), (33, .ifCond .eq 38, 3), (36, .aload_n 0, 1), (37, .getfield 23, 3), (40, .iload_n 2, 1), (41, .baload, 1), (42, .ifCond .eq 29, 3), (45, .aload_n 0, 1), (46, .getfield 29, 3), (49, .iload_n 2, 1), (50, .baload, 1), (51, .ifCond .ne 20, 3), (54, .aload_n 0, 1), (55, .iload_n 2, 1), (56, .iload_n 1, 1), (57, .iconst 1, 1), (58, .invokevirtual 129, 3), (61, .ifCond .eq 10, 3), (64, .aload_n 0, 1), (65, .getfield 29, 3), (68, .iload_n 2, 1), (69, .iconst 1, 1), (70, .bastore, 1), (71, .aload_n 0, 1), (72, .iconst (-1), 1), (73, .iload_n 2, 1), (74, .invokevirtual 125, 3), (77, .aload_n 0, 1), (78, .getfield 13, 3), (81, .iload_n 1, 1), (82, .iconst 1, 1), (83, .bastore, 1), (84, .iconst 0, 1), (85, .ireturn, 1)], 3, 3, 50)
def cm11 : Me := ("sync", "()V", 0, 0, [(0, .iconst 0, 1), (1, .istore_n 1, 1), (2, .iload_n 1, 1), (3, .aload_n 0, 1), (4, .getfield 67, 3), (7, .if_icmp .ge 64, 3), (10, .aload_n 0, 1), (11, .getfield 20, 3), (14, .iload_n 1, 1), (15, .iaload, 1), (16, .istore_n 2, 1), (17, .aload_n 0, 1), (18, .getfield 26, 3), (21, .iload_n 1, 1), (22, .baload, 1), (23, .ifCond .eq 42, 3), (26, .aload_n 0, 1), (27, .getfield 23, 3), (30, .iload_n 1, 1), (31, .baload, 1), (32, .ifCond .eq 33, 3), (35, .aload_n 0, 1), (36, .getfield 29, 3), (39, .iload_n 1, 1), (40, .baload, 1), (41, .ifCond .ne 24, 3), (44, .iload_n 2, 1), (45, .ifCond .lt 20, 3), (48, .aload_n 0, 1), (49, .iload_n 1, 1), (50, .iload_n 2, 1), (51, .iconst 1, 1), (52, .invokevirtual 129, 3), (55, .ifCond .eq 10, 3), (58, .aload_n 0, 1), (59, .getfield 29, 3), (62, .iload_n 1, 1), (63, .iconst 1, 1), (64, .bastore, 1), (65, .iinc 1 1, 3), (68, .goto (-66), 3), (71, .aload_n 0, 1), (72, .invokevirtual 133, 3), (75, .iconst 0, 1), (76, .istore_n 1, 1), (77, .iload_n 1, 1), (78, .bipush 32, 2), (80, .if_icmp .ge 16, 3), (83, .aload_n 0, 1), (84, .getfield 13, 3), (87, .iload_n 1, 1), (88, .iconst 1, 1), (89, .bastore, 1), (90, .iinc 1 1, 3), (93, .goto (-16), 3), (96, .return_, 1)], 3, 3, 47)
def cm12 : Me := ("diskWord", "(II)I", 2, 1, [(0, .aload_n 0, 1), (1, .iload_n 1, 1), (2, .invokevirtual 86, 3), (5, .ifCond .eq 6, 3), (8, .bipush (-3), 2), (10, .ireturn, 1), (11, .aload_n 0, 1), (12, .iload_n 2, 1), (13, .invokevirtual 89, 3), (16, .ifCond .eq 6, 3), (19, .bipush (-4), 2), (21, .ireturn, 1), (22, .aload_n 0, 1), (23, .getfield 13, 3), (26, .iload_n 1, 1), (27, .baload, 1), (28, .ifCond .ne 5, 3), (31, .iconst (-1), 1), (32, .ireturn, 1), (33, .aload_n 0, 1), (34, .getfield 7, 3), (37, .iload_n 1, 1), (38, .iconst 4, 1), (39, .imul, 1), (40, .iload_n 2, 1), (41, .iadd, 1), (42, .iaload, 1), (43, .ireturn, 1)], 3, 1, 13)
def cm13 : Me := ("unsyncedCount", "()I", 0, 1, [(0, .iconst 0, 1), (1, .istore_n 1, 1), (2, .iconst 0, 1), (3, .istore_n 2, 1), (4, .iload_n 2, 1), (5, .aload_n 0, 1), (6, .getfield 63, 3), (9, .if_icmp .ge 21, 3), (12, .aload_n 0, 1), (13, .getfield 13, 3), (16, .iload_n 2, 1), (17, .baload, 1), (18, .ifCond .ne 6, 3), (21, .iinc 1 1, 3), (24, .iinc 2 1, 3), (27, .goto (-23), 3), (30, .iload_n 1, 1), (31, .ireturn, 1)], 3, 0, 0)
def cm18 : Me := ("clamp", "(III)I", 3, 1, [(0, .iload_n 1, 1), (1, .iload_n 2, 1), (2, .if_icmp .ge 5, 3), (5, .iload_n 2, 1), (6, .ireturn, 1), (7, .iload_n 1, 1), (8, .iload_n 3, 1), (9, .if_icmp .le 5, 3), (12, .iload_n 3, 1), (13, .ireturn, 1), (14, .iload_n 1, 1), (15, .ireturn, 1)], 4, 0, 0)
def cm19 : Me := ("badProc", "(I)Z", 1, 2, [(0, .iload_n 1, 1), (1, .ifCond .lt 11, 3), (4, .iload_n 1, 1), (5, .aload_n 0, 1), (6, .getfield 70, 3), (9, .if_icmp .lt 7, 3), (12, .iconst 1, 1), (13, .goto 4, 3), (16, .iconst 0, 1), (17, .ireturn, 1)], 2, 0, 0)
def cm20 : Me := ("badBlock", "(I)Z", 1, 2, [(0, .iload_n 1, 1), (1, .ifCond .lt 11, 3), (4, .iload_n 1, 1), (5, .aload_n 0, 1), (6, .getfield 63, 3), (9, .if_icmp .lt 7, 3), (12, .iconst 1, 1), (13, .goto 4, 3), (16, .iconst 0, 1), (17, .ireturn, 1)], 2, 0, 0)
def cm21 : Me := ("badWord", "(I)Z", 1, 2, [(0, .iload_n 1, 1), (1, .ifCond .lt 8, 3), (4, .iload_n 1, 1), (5, .iconst 4, 1), (6, .if_icmp .lt 7, 3), (9, .iconst 1, 1), (10, .goto 4, 3), (13, .iconst 0, 1), (14, .ireturn, 1)], 2, 0, 0)
def cm22 : Me := ("goodBuf", "(I)Z", 1, 2, [(0, .iload_n 1, 1), (1, .ifCond .lt 15, 3), (4, .iload_n 1, 1), (5, .aload_n 0, 1), (6, .getfield 67, 3), (9, .if_icmp .ge 7, 3), (12, .iconst 1, 1), (13, .goto 4, 3), (16, .iconst 0, 1), (17, .ireturn, 1)], 2, 0, 0)
def cm23 : Me := ("copyBetween", "(IIII)V", 4, 0, [(0, .aload_n 0, 1), (1, .iload_n 2, 1), (2, .iload_n 3, 1), (3, .iconst 0, 1), (4, .invokevirtual 96, 3), (7, .istore 5, 2), (9, .aload_n 0, 1), (10, .iload_n 2, 1), (11, .iload_n 3, 1), (12, .iconst 1, 1), (13, .invokevirtual 96, 3), (16, .istore 6, 2), (18, .aload_n 0, 1), (19, .iload_n 2, 1), (20, .iload_n 3, 1), (21, .iconst 2, 1), (22, .invokevirtual 96, 3), (25, .istore 7, 2), (27, .aload_n 0, 1), (28, .iload_n 2, 1), (29, .iload_n 3, 1), (30, .iconst 3, 1), (31, .invokevirtual 96, 3), (34, .istore 8, 2), (36, .aload_n 0, 1), (37, .iload_n 1, 1), (38, .iload 4, 2), (40, .iconst 0, 1), (41, .invokevirtual 92, 3), (44, .istore 9, 2), (46, .aload_n 0, 1), (47, .iload 9, 2), (49, .iload 4, 2), (51, .iconst 0, 1), (52, .iload 5, 2), (54, .invokevirtual 104, 3), (57, .aload_n 0, 1), (58, .iload 9, 2), (60, .iload 4, 2), (62, .iconst 1, 1), (63, .iload 6, 2), (65, .invokevirtual 104, 3), (68, .aload_n 0, 1), (69, .iload 9, 2), (71, .iload 4, 2), (73, .iconst 2, 1), (74, .iload 7, 2), (76, .invokevirtual 104, 3), (79, .aload_n 0, 1), (80, .iload 9, 2), (82, .iload 4, 2), (84, .iconst 3, 1), (85, .iload 8, 2), (87, .invokevirtual 104, 3), (90, .aload_n 0, 1), (91, .iload 9, 2), (93, .invokevirtual 111, 3), (96, .aload_n 0, 1), (97, .iload 9, 2), (99, .invokevirtual 99, 3), (102, .aload_n 0, 1), (103, .iload_n 2, 1), (104, .invokevirtual 99, 3), (107, .return_, 1)], 10, 4, 66)
def cm24 : Me := ("loadWord", "(III)I", 3, 1, [(0, .aload_n 0, 1), (1, .iload_n 1, 1), (2, .invokevirtual 140, 3), (5, .ifCond .eq 23, 3), (8, .aload_n 0, 1), (9, .getfield 23, 3), (12, .iload_n 1, 1), (13, .baload, 1), (14, .ifCond .eq 14, 3), (17, .aload_n 0, 1), (18, .getfield 17, 3), (21, .iload_n 1, 1), (22, .iconst 4, 1), (23, .imul, 1), (24, .iload_n 3, 1), (25, .iadd, 1), (26, .iaload, 1), (27, .ireturn, 1), (28, .aload_n 0, 1), (29, .getfield 7, 3), (32, .iload_n 2, 1), (33, .iconst 4, 1), (34, .imul, 1), (35, .iload_n 3, 1), (36, .iadd, 1), (37, .iaload, 1), (38, .ireturn, 1)], 4, 1, 13)
def cm25 : Me := ("storeWord", "(IIII)V", 4, 0, [(0, .aload_n 0, 1), (1, .iload_n 1, 1), (2, .invokevirtual 140, 3), (5, .ifCond .eq 18, 3), (8, .aload_n 0, 1), (9, .getfield 17, 3), (12, .iload_n 1, 1), (13, .iconst 4, 1), (14, .imul, 1), (15, .iload_n 3, 1), (16, .iadd, 1), (17, .iload 4, 2), (19, .iastore, 1), (20, .goto 15, 3), (23, .aload_n 0, 1), (24, .getfield 7, 3), (27, .iload_n 2, 1), (28, .iconst 4, 1), (29, .imul, 1), (30, .iload_n 3, 1), (31, .iadd, 1), (32, .iload 4, 2), (34, .iastore, 1), (35, .return_, 1)], 5, 1, 13)
def cm27 : Me := ("markDirty", "(I)V", 1, 0, [(0, .aload_n 0, 1), (1, .iload_n 1, 1), (2, .invokevirtual 140, 3), (5, .ifCond .eq 10, 3), (8, .aload_n 0, 1), (9, .getfield 26, 3), (12, .iload_n 1, 1), (13, .iconst 1, 1), (14, .bastore, 1), (15, .return_, 1)], 2, 1, 13)
def cm28 : Me := ("markFull", "(I)V", 1, 0, [(0, .aload_n 0, 1), (1, .iload_n 1, 1), (2, .invokevirtual 140, 3), (5, .ifCond .eq 17, 3), (8, .aload_n 0, 1), (9, .getfield 23, 3), (12, .iload_n 1, 1), (13, .iconst 1, 1), (14, .bastore, 1), (15, .aload_n 0, 1), (16, .getfield 26, 3), (19, .iload_n 1, 1), (20, .iconst 1, 1), (21, .bastore, 1), (22, .return_, 1)], 2, 1, 13)
def cm29 : Me := ("release", "(I)V", 1, 0, [(0, .aload_n 0, 1), (1, .iload_n 1, 1), (2, .invokevirtual 140, 3), (5, .ifCond .eq 10, 3), (8, .aload_n 0, 1), (9, .getfield 32, 3), (12, .iload_n 1, 1), (13, .iconst 0, 1), (14, .bastore, 1), (15, .return_, 1)], 2, 1, 13)
def cm30 : Me := ("touch", "(I)V", 1, 0, [(0, .aload_n 0, 1), (1, .aload_n 0, 1), (2, .getfield 73, 3), (5, .iconst 1, 1), (6, .iadd, 1), (7, .putfield 73, 3), (10, .aload_n 0, 1), (11, .getfield 35, 3), (14, .iload_n 1, 1), (15, .aload_n 0, 1), (16, .getfield 73, 3), (19, .iastore, 1), (20, .return_, 1)], 2, 0, 0)
def cm31 : Me := ("findBuf", "(I)I", 1, 1, [(0, .iconst 0, 1), (1, .istore_n 2, 1), (2, .iload_n 2, 1), (3, .aload_n 0, 1), (4, .getfield 67, 3), (7, .if_icmp .ge 21, 3), (10, .aload_n 0, 1), (11, .getfield 20, 3), (14, .iload_n 2, 1), (15, .iaload, 1), (16, .iload_n 1, 1), (17, .if_icmp .ne 5, 3), (20, .iload_n 2, 1), (21, .ireturn, 1), (22, .iinc 2 1, 3), (25, .goto (-23), 3), (28, .iconst (-1), 1), (29, .ireturn, 1)], 3, 0, 0)
def cm32 : Me := ("getBlock", "(IIZ)I", 3, 1, [(0, .aload_n 0, 1), (1, .iload_n 2, 1), (2, .invokevirtual 121, 3), (5, .istore 4, 2), (7, .iload 4, 2), (9, .ifCond .lt 13, 3), (12, .aload_n 0, 1), (13, .iload_n 1, 1), (14, .iload 4, 2), (16, .invokevirtual 125, 3), (19, .goto 40, 3), (22, .aload_n 0, 1), (23, .invokevirtual 143, 3), (26, .istore 4, 2), (28, .iload 4, 2), (30, .ifCond .ge 5, 3), (33, .iconst (-1), 1), (34, .ireturn, 1), (35, .aload_n 0, 1), (36, .getfield 20, 3), (39, .iload 4, 2), (41, .iload_n 2, 1), (42, .iastore, 1), (43, .aload_n 0, 1), (44, .getfield 23, 3), (47, .iload 4, 2), (49, .iconst 0, 1), (50, .bastore, 1), (51, .aload_n 0, 1), (52, .getfield 26, 3), (55, .iload 4, 2), (57, .iconst 0, 1), (58, .bastore, 1), (59, .aload_n 0, 1), (60, .getfield 32, 3), (63, .iload 4, 2), (65, .iconst 1, 1), (66, .bastore, 1), (67, .aload_n 0, 1), (68, .iload 4, 2), (70, .invokevirtual 147, 3), (73, .iload_n 3, 1), (74, .ifCond .eq 39, 3), (77, .aload_n 0, 1), (78, .getfield 23, 3), (81, .iload 4, 2), (83, .baload, 1), (84, .ifCond .ne 29, 3), (87, .aload_n 0, 1), (88, .iload 4, 2), (90, .iload_n 2, 1), (91, .iconst 0, 1), (92, .invokevirtual 129, 3), (95, .ifCond .eq 11, 3), (98, .aload_n 0, 1), (99, .getfield 29, 3), (102, .iload 4, 2), (104, .iconst 1, 1), (105, .bastore, 1), (106, .aload_n 0, 1), (107, .iload_n 1, 1), (108, .iload 4, 2), (110, .invokevirtual 125, 3), (113, .iload 4, 2), (115, .ireturn, 1)], 5, 3, 50)
def cm33 : Me := ("allocate", "()I", 0, 1, [(0, .iconst 0, 1), (1, .istore_n 1, 1), (2, .iload_n 1, 1), (3, .bipush 64, 2), (5, .if_icmp .ge 85, 3), (8, .aload_n 0, 1), (9, .invokevirtual 150, 3), (12, .istore_n 2, 1), (13, .iload_n 2, 1), (14, .ifCond .ge 12, 3), (17, .aload_n 0, 1), (18, .invokevirtual 117, 3), (21, .ifCond .ne 63, 3), (24, .iconst (-1), 1), (25, .ireturn, 1), (26, .aload_n 0, 1), (27, .getfield 26, 3), (30, .iload_n 2, 1), (31, .baload, 1), (32, .ifCond .eq 50, 3), (35, .aload_n 0, 1), (36, .getfield 23, 3), (39, .iload_n 2, 1), (40, .baload, 1), (41, .ifCond .eq 41, 3), (44, .aload_n 0, 1), (45, .getfield 20, 3), (48, .iload_n 2, 1), (49, .iaload, 1), (50, .ifCond .lt 32, 3), (53, .aload_n 0, 1), (54, .getfield 20, 3), (57, .iload_n 2, 1), (58, .iaload, 1), (59, .istore_n 3, 1), (60, .aload_n 0, 1), (61, .iload_n 2, 1), (62, .iload_n 3, 1), (63, .iconst 1, 1), (64, .invokevirtual 129, 3), (67, .ifCond .ne 5, 3), (70, .iconst (-1), 1), (71, .ireturn, 1), (72, .aload_n 0, 1), (73, .getfield 29, 3), (76, .iload_n 2, 1), (77, .iconst 1, 1), (78, .bastore, 1), (79, .goto 5, 3), (82, .iload_n 2, 1), (83, .ireturn, 1), (84, .iinc 1 1, 3), (87, .goto (-85), 3), (90, .iconst (-1), 1), (91, .ireturn, 1)], 4, 2, 34)
def cm34 : Me := ("lruFree", "()I", 0, 1, [(0, .iconst (-1), 1), (1, .istore_n 1, 1), (2, .iconst 0, 1), (3, .istore_n 2, 1), (4, .iload_n 2, 1), (5, .aload_n 0, 1), (6, .getfield 67, 3), (9, .if_icmp .ge 48, 3), (12, .aload_n 0, 1), (13, .getfield 29, 3), (16, .iload_n 2, 1), (17, .baload, 1), (18, .ifCond .ne 33, 3), (21, .aload_n 0, 1), (22, .getfield 32, 3), (25, .iload_n 2, 1), (26, .baload, 1), (27, .ifCond .ne 24, 3), (30, .iload_n 1, 1), (31, .ifCond .lt 18, 3), (34, .aload_n 0, 1), (35, .getfield 35, 3), (38, .iload_n 2, 1), (39, .iaload, 1), (40, .aload_n 0, 1), (41, .getfield 35, 3), (44, .iload_n 1, 1), (45, .iaload, 1), (46, .if_icmp .ge 5, 3), (49, .iload_n 2, 1), (50, .istore_n 1, 1), (51, .iinc 2 1, 3), (54, .goto (-50), 3), (57, .iload_n 1, 1), (58, .ireturn, 1)], 3, 0, 0)
def cm35 : Me := ("waitBuffer", "(II)V", 2, 0, [(0, .aload_n 0, 1), (1, .iload_n 2, 1), (2, .invokevirtual 140, 3), (5, .ifCond .ne 4, 3), (8, .return_, 1), (9, .iload_n 1, 1), (10, .ifCond .lt 15, 3), (13, .iload_n 1, 1), (14, .aload_n 0, 1), (15, .getfield 70, 3), (18, .if_icmp .ge 7, 3), (21, .iconst 1, 1), (22, .goto 4, 3), (25, .iconst 0, 1), (26, .istore_n 3, 1), (27, .iload_n 3, 1), (28, .ifCond .eq 19, 3), (31, .aload_n 0, 1), (32, .getfield 29, 3), (35, .iload_n 2, 1), (36, .baload, 1), (37, .ifCond .eq 10, 3), (40, .aload_n 0, 1), (41, .getfield 56, 3), (44, .iload_n 1, 1), (45, .iload_n 2, 1), (46, .iastore, 1), (47, .iconst 0, 1), (48, .istore 4, 2), (50, .iload 4, 2), (52, .bipush 64, 2), (54, .if_icmp .ge 31, 3), (57, .aload_n 0, 1), (58, .getfield 29, 3), (61, .iload_n 2, 1), (62, .baload, 1), (63, .ifCond .ne 6, 3), (66, .goto 19, 3), (69, .aload_n 0, 1), (70, .invokevirtual 117, 3), (73, .ifCond .ne 6, 3), (76, .goto 9, 3), (79, .iinc 4 1, 3), (82, .goto (-32), 3), (85, .iload_n 3, 1), (86, .ifCond .eq 10, 3), (89, .aload_n 0, 1), (90, .getfield 56, 3), (93, .iload_n 1, 1), (94, .iconst (-1), 1), (95, .iastore, 1), (96, .return_, 1)], 5, 2, 34)
def cm36 : Me := ("enqueue", "(IIZ)Z", 3, 2, [(0, .aload_n 0, 1), (1, .getfield 76, 3), (4, .bipush 16, 2), (6, .if_icmp .lt 5, 3), (9, .iconst 0, 1), (10, .ireturn, 1), (11, .aload_n 0, 1), (12, .getfield 38, 3), (15, .aload_n 0, 1), (16, .getfield 76, 3), (19, .iload_n 1, 1), (20, .iastore, 1), (21, .aload_n 0, 1), (22, .getfield 41, 3), (25, .aload_n 0, 1), (26, .getfield 76, 3), (29, .iload_n 2, 1), (30, .iastore, 1), (31, .aload_n 0, 1), (32, .getfield 44, 3), (35, .aload_n 0, 1), (36, .getfield 76, 3), (39, .iload_n 3, 1), (40, .bastore, 1), (41, .aload_n 0, 1), (42, .aload_n 0, 1), (43, .getfield 76, 3), (46, .iconst 1, 1), (47, .iadd, 1), (48, .putfield 76, 3), (51, .iconst 1, 1), (52, .ireturn, 1)], 4, 0, 0)
def cm37 : Me := ("drain", "()V", 0, 0, [(0, .iconst 0, 1), (1, .istore_n 1, 1), (2, .iload_n 1, 1), (3, .bipush 64, 2), (5, .if_icmp .ge 19, 3), (8, .aload_n 0, 1), (9, .invokevirtual 117, 3), (12, .ifCond .ne 6, 3), (15, .goto 9, 3), (18, .iinc 1 1, 3), (21, .goto (-19), 3), (24, .return_, 1)], 2, 2, 34)
def cm38 : Me := ("pickNext", "()I", 0, 1, [(0, .iconst (-1), 1), (1, .istore_n 1, 1), (2, .iconst (-1), 1), (3, .istore_n 2, 1), (4, .iconst 0, 1), (5, .istore_n 3, 1), (6, .iload_n 3, 1), (7, .aload_n 0, 1), (8, .getfield 76, 3), (11, .if_icmp .ge 60, 3), (14, .aload_n 0, 1), (15, .getfield 41, 3), (18, .iload_n 3, 1), (19, .iaload, 1), (20, .istore 4, 2), (22, .iload 4, 2), (24, .aload_n 0, 1), (25, .getfield 79, 3), (28, .if_icmp .lt 20, 3), (31, .iload_n 1, 1), (32, .ifCond .lt 14, 3), (35, .iload 4, 2), (37, .aload_n 0, 1), (38, .getfield 41, 3), (41, .iload_n 1, 1), (42, .iaload, 1), (43, .if_icmp .ge 5, 3), (46, .iload_n 3, 1), (47, .istore_n 1, 1), (48, .iload_n 2, 1), (49, .ifCond .lt 14, 3), (52, .iload 4, 2), (54, .aload_n 0, 1), (55, .getfield 41, 3), (58, .iload_n 2, 1), (59, .iaload, 1), (60, .if_icmp .ge 5, 3), (63, .iload_n 3, 1), (64, .istore_n 2, 1), (65, .iinc 3 1, 3), (68, .goto (-62), 3), (71, .iload_n 1, 1), (72, .ifCond .lt 5, 3), (75, .iload_n 1, 1), (76, .ireturn, 1), (77, .iload_n 2, 1), (78, .ireturn, 1)], 5, 0, 0)
def cm39 : Me := ("removeAt", "(I)V", 1, 0, [(0, .iload_n 1, 1), (1, .istore_n 2, 1), (2, .iload_n 2, 1), (3, .iconst 1, 1), (4, .iadd, 1), (5, .aload_n 0, 1), (6, .getfield 76, 3), (9, .if_icmp .ge 51, 3), (12, .aload_n 0, 1), (13, .getfield 38, 3), (16, .iload_n 2, 1), (17, .aload_n 0, 1), (18, .getfield 38, 3), (21, .iload_n 2, 1), (22, .iconst 1, 1), (23, .iadd, 1), (24, .iaload, 1), (25, .iastore, 1), (26, .aload_n 0, 1), (27, .getfield 41, 3), (30, .iload_n 2, 1), (31, .aload_n 0, 1), (32, .getfield 41, 3), (35, .iload_n 2, 1), (36, .iconst 1, 1), (37, .iadd, 1), (38, .iaload, 1), (39, .iastore, 1), (40, .aload_n 0, 1), (41, .getfield 44, 3), (44, .iload_n 2, 1), (45, .aload_n 0, 1), (46, .getfield 44, 3), (49, .iload_n 2, 1), (50, .iconst 1, 1), (51, .iadd, 1), (52, .baload, 1), (53, .bastore, 1), (54, .iinc 2 1, 3), (57, .goto (-55), 3), (60, .aload_n 0, 1), (61, .aload_n 0, 1), (62, .getfield 76, 3), (65, .iconst 1, 1), (66, .isub, 1), (67, .putfield 76, 3), (70, .return_, 1)], 3, 0, 0)
def cm40 : Me := ("interrupt", "()Z", 0, 2, [(0, .aload_n 0, 1), (1, .invokevirtual 153, 3), (4, .istore_n 1, 1), (5, .iload_n 1, 1), (6, .ifCond .ge 5, 3), (9, .iconst 0, 1), (10, .ireturn, 1), (11, .aload_n 0, 1), (12, .getfield 38, 3), (15, .iload_n 1, 1), (16, .iaload, 1), (17, .istore_n 2, 1), (18, .aload_n 0, 1), (19, .getfield 41, 3), (22, .iload_n 1, 1), (23, .iaload, 1), (24, .istore_n 3, 1), (25, .aload_n 0, 1), (26, .getfield 44, 3), (29, .iload_n 1, 1), (30, .baload, 1), (31, .istore 4, 2), (33, .aload_n 0, 1), (34, .iload_n 1, 1), (35, .invokevirtual 156, 3), (38, .aload_n 0, 1), (39, .iload_n 2, 1), (40, .invokevirtual 140, 3), (43, .ifCond .eq 13, 3), (46, .iload_n 3, 1), (47, .ifCond .lt 9, 3), (50, .iload_n 3, 1), (51, .bipush 32, 2), (53, .if_icmp .lt 5, 3), (56, .iconst 1, 1), (57, .ireturn, 1), (58, .aload_n 0, 1), (59, .iload_n 2, 1), (60, .iload_n 3, 1), (61, .iload 4, 2), (63, .invokevirtual 159, 3), (66, .aload_n 0, 1), (67, .iload_n 3, 1), (68, .putfield 79, 3), (71, .aload_n 0, 1), (72, .getfield 29, 3), (75, .iload_n 2, 1), (76, .iconst 0, 1), (77, .bastore, 1), (78, .aload_n 0, 1), (79, .iload_n 2, 1), (80, .invokevirtual 163, 3), (83, .iconst 1, 1), (84, .ireturn, 1)], 5, 1, 18)
def cm41 : Me := ("transfer", "(IIZ)V", 3, 0, [(0, .iload_n 1, 1), (1, .iconst 4, 1), (2, .imul, 1), (3, .istore 4, 2), (5, .iload_n 2, 1), (6, .iconst 4, 1), (7, .imul, 1), (8, .istore 5, 2), (10, .iload_n 3, 1), (11, .ifCond .eq 48, 3), (14, .iconst 0, 1), (15, .istore 6, 2), (17, .iload 6, 2), (19, .iconst 4, 1), (20, .if_icmp .ge 29, 3), (23, .aload_n 0, 1), (24, .getfield 7, 3), (27, .iload 5, 2), (29, .iload 6, 2), (31, .iadd, 1), (32, .aload_n 0, 1), (33, .getfield 17, 3), (36, .iload 4, 2), (38, .iload 6, 2), (40, .iadd, 1), (41, .iaload, 1), (42, .iastore, 1), (43, .iinc 6 1, 3), (46, .goto (-29), 3), (49, .aload_n 0, 1), (50, .getfield 26, 3), (53, .iload_n 1, 1), (54, .iconst 0, 1), (55, .bastore, 1), (56, .goto 52, 3), (59, .iconst 0, 1), (60, .istore 6, 2), (62, .iload 6, 2), (64, .iconst 4, 1), (65, .if_icmp .ge 29, 3), (68, .aload_n 0, 1), (69, .getfield 17, 3), (72, .iload 4, 2), (74, .iload 6, 2), (76, .iadd, 1), (77, .aload_n 0, 1), (78, .getfield 7, 3), (81, .iload 5, 2), (83, .iload 6, 2), (85, .iadd, 1), (86, .iaload, 1), (87, .iastore, 1), (88, .iinc 6 1, 3), (91, .goto (-29), 3), (94, .aload_n 0, 1), (95, .getfield 23, 3), (98, .iload_n 1, 1), (99, .iconst 1, 1), (100, .bastore, 1), (101, .aload_n 0, 1), (102, .getfield 26, 3), (105, .iload_n 1, 1), (106, .iconst 0, 1), (107, .bastore, 1), (108, .return_, 1)], 7, 0, 0)
def cm42 : Me := ("wake", "(I)V", 1, 0, [(0, .iconst 0, 1), (1, .istore_n 2, 1), (2, .iload_n 2, 1), (3, .aload_n 0, 1), (4, .getfield 70, 3), (7, .if_icmp .ge 26, 3), (10, .aload_n 0, 1), (11, .getfield 56, 3), (14, .iload_n 2, 1), (15, .iaload, 1), (16, .iload_n 1, 1), (17, .if_icmp .ne 10, 3), (20, .aload_n 0, 1), (21, .getfield 56, 3), (24, .iload_n 2, 1), (25, .iconst (-1), 1), (26, .iastore, 1), (27, .iinc 2 1, 3), (30, .goto (-28), 3), (33, .return_, 1)], 3, 0, 0)
def PP : Cl := ("BlockBufferCache", [(14, ("nBlocks", "I", 0, false)), (15, ("nBufs", "I", 0, false)), (16, ("nProcs", "I", 0, false)), (17, ("disk", "[I", 3, true)), (18, ("known", "[Z", 4, true)), (19, ("bufData", "[I", 5, true)), (20, ("bufBlock", "[I", 6, true)), (21, ("valid", "[Z", 7, true)), (22, ("dirty", "[Z", 8, true)), (23, ("busy", "[Z", 9, true)), (24, ("held", "[Z", 10, true)), (25, ("lastUse", "[I", 11, true)), (26, ("tick", "I", 0, false)), (27, ("qBuf", "[I", 12, true)), (28, ("qBlock", "[I", 13, true)), (29, ("qWrite", "[Z", 14, true)), (30, ("qLen", "I", 0, false)), (31, ("head", "I", 0, false)), (32, ("last", "[I", 15, true)), (33, ("reads", "[I", 16, true)), (34, ("writes", "[I", 17, true)), (35, ("waitBuf", "[I", 18, true))], [(0, 128), (1, 32), (0, 32), (0, 8), (1, 8), (1, 8), (1, 8), (1, 8), (0, 8), (0, 16), (0, 16), (1, 16), (0, 4), (0, 4), (0, 4), (0, 4)], [(7, 17), (13, 18), (17, 19), (20, 20), (23, 21), (26, 22), (29, 23), (32, 24), (35, 25), (38, 27), (41, 28), (44, 29), (47, 32), (50, 33), (53, 34), (56, 35), (63, 14), (67, 15), (70, 16), (73, 26), (76, 30), (79, 31)], [(59, 18), (82, 19), (86, 20), (89, 21), (92, 32), (96, 24), (99, 29), (104, 25), (108, 27), (111, 28), (114, 23), (117, 40), (121, 31), (125, 35), (129, 36), (133, 37), (140, 22), (143, 33), (147, 30), (150, 34), (153, 38), (156, 39), (159, 41), (163, 42)], [(103, .int (65535 : Int32))], [(0, cm0), (5, cm5), (6, cm6), (7, cm7), (8, cm8), (9, cm9), (10, cm10), (11, cm11), (12, cm12), (13, cm13), (18, cm18), (19, cm19), (20, cm20), (21, cm21), (22, cm22), (23, cm23), (24, cm24), (25, cm25), (27, cm27), (28, cm28), (29, cm29), (30, cm30), (31, cm31), (32, cm32), (33, cm33), (34, cm34), (35, cm35), (36, cm36), (37, cm37), (38, cm38), (39, cm39), (40, cm40), (41, cm41), (42, cm42)], 1)
def lm0 : Me := ("law", "([I)Z", 1, 2, [(0, .aload_n 0, 1), (1, .iconst 0, 1), (2, .invokestatic 11, 3), (5, .istore_n 1, 1), (6, .iconst 1, 1), (7, .iload_n 1, 1), (8, .iconst 2, 1), (9, .iushr, 1), (10, .iconst 3, 1), (11, .iand, 1), (12, .iadd, 1), (13, .istore_n 2, 1), (14, .new 17, 3), (17, .dup, 1), (18, .bipush 8, 2), (20, .iconst 2, 1), (21, .iload_n 1, 1), (22, .iconst 3, 1), (23, .iand, 1), (24, .iadd, 1), (25, .iload_n 2, 1), (26, .invokespecial 19, 3), (29, .astore_n 3, 1), (30, .lconst 0, 1), (31, .lstore 4, 2), (33, .lconst 0, 1), (34, .lstore 6, 2), (36, .iconst 0, 1), (37, .istore 8, 2), (39, .iconst 1, 1), (40, .istore 9, 2), (42, .iload 9, 2), (44, .aload_n 0, 1), (45, .arraylength, 1), (46, .if_icmp .ge 507, 3), (49, .aload_n 0, 1), (50, .iload 9, 2), (52, .invokestatic 11, 3), (55, .istore 10, 2), (57, .aload_n 0, 1), (58, .iload 9, 2), (60, .iconst 1, 1), (61, .iadd, 1), (62, .invokestatic 11, 3), (65, .istore 11, 2), (67, .iload 10, 2), (69, .bipush 7, 2), (71, .iand, 1), (72, .istore 12, 2), (74, .iload 10, 2), (76, .iconst 3, 1), (77, .iushr, 1), (78, .iconst 3, 1), (79, .iand, 1), (80, .iload_n 2, 1), (81, .irem, 1), (82, .istore 13, 2), (84, .iload 10, 2), (86, .iconst 5, 1), (87, .iushr, 1), (88, .bipush 7, 2), (90, .iand, 1), (91, .istore 14, 2), (93, .iload 10, 2), (95, .bipush 8, 2), (97, .iushr, 1), (98, .iconst 3, 1), (99, .iand, 1), (100, .istore 15, 2), (102, .iload 10, 2), (104, .bipush 10, 2), (106, .iushr, 1), (107, .bipush 7, 2), (109, .iand, 1), (110, .istore 16, 2), (112, .iload 11, 2), (114, .bipush 15, 2), (116, .iand, 1), (117, .iload 11, 2), (119, .iconst 4, 1), (120, .ishr, 1), (121, .bipush 16, 2), (123, .ishl, 1), (124, .ior, 1), (125, .istore 17, 2), (127, .iload 12, 2), (129, .ifCond .eq 9, 3), (132, .iload 12, 2), (134, .iconst 1, 1), (135, .if_icmp .ne 29, 3), (138, .aload_n 3, 1), (139, .iload 13, 2), (141, .iload 14, 2), (143, .iload 15, 2), (145, .invokevirtual 22, 3), (148, .lload 4, 2), (150, .lload 6, 2), (152, .iload 14, 2), (154, .iload 15, 2), (156, .invokestatic 26, 3), (159, .if_icmp .eq 323, 3), (162, .iconst 0, 1), (163, .ireturn, 1), (164, .iload 12, 2), (166, .iconst 2, 1), (167, .if_icmp .eq 9, 3), (170, .iload 12, 2), (172, .iconst 3, 1), (173, .if_icmp .ne 65, 3), (176, .aload_n 3, 1), (177, .iload 13, 2), (179, .iload 14, 2), (181, .iload 15, 2), (183, .iload 17, 2), (185, .invokevirtual 30, 3), (188, .pop, 1), (189, .iload 14, 2), (191, .iconst 4, 1), (192, .if_icmp .ge 19, 3), (195, .lload 4, 2), (197, .iload 14, 2), (199, .iload 15, 2), (201, .iload 17, 2), (203, .invokestatic 34, 3), (206, .lstore 4, 2), (208, .goto 16, 3), (211, .lload 6, 2), (213, .iload 14, 2), (215, .iload 15, 2), (217, .iload 17, 2), (219, .invokestatic 34, 3), (222, .lstore 6, 2), (224, .iload 8, 2), (226, .iconst 1, 1), (227, .iload 14, 2), (229, .ishl, 1), (230, .iconst (-1), 1), (231, .ixor, 1), (232, .iand, 1), (233, .istore 8, 2), (235, .goto 247, 3), (238, .iload 12, 2), (240, .iconst 4, 1), (241, .if_icmp .ne 78, 3), (244, .aload_n 3, 1), (245, .iload 13, 2), (247, .iload 14, 2), (249, .iload 17, 2), (251, .invokevirtual 38, 3), (254, .pop, 1), (255, .iconst 0, 1), (256, .istore 18, 2), (258, .iload 18, 2), (260, .iconst 4, 1), (261, .if_icmp .ge 44, 3), (264, .iload 14, 2), (266, .iconst 4, 1), (267, .if_icmp .ge 19, 3), (270, .lload 4, 2), (272, .iload 14, 2), (274, .iload 18, 2), (276, .iload 17, 2), (278, .invokestatic 34, 3), (281, .lstore 4, 2), (283, .goto 16, 3), (286, .lload 6, 2), (288, .iload 14, 2), (290, .iload 18, 2), (292, .iload 17, 2), (294, .invokestatic 34, 3), (297, .lstore 6, 2), (299, .iinc 18 1, 3), (302, .goto (-44), 3), (305, .iload 8, 2), (307, .iconst 1, 1), (308, .iload 14, 2), (310, .ishl, 1), (311, .iconst (-1), 1), (312, .ixor, 1), (313, .iand, 1), (314, .istore 8, 2), (316, .goto 166, 3), (319, .iload 12, 2), (321, .iconst 5, 1), (322, .if_icmp .ne 91, 3), (325, .aload_n 3, 1), (326, .iload 13, 2), (328, .iload 14, 2), (330, .iload 16, 2), (332, .invokevirtual 41, 3), (335, .pop, 1), (336, .iconst 0, 1), (337, .istore 18, 2), (339, .iload 18, 2), (341, .iconst 4, 1), (342, .if_icmp .ge 57, 3), (345, .lload 4, 2), (347, .lload 6, 2), (349, .iload 14, 2), (351, .iload 18, 2), (353, .invokestatic 26, 3), (356, .istore 19, 2), (358, .iload 16, 2), (360, .iconst 4, 1), (361, .if_icmp .ge 19, 3), (364, .lload 4, 2), (366, .iload 16, 2), (368, .iload 18, 2), (370, .iload 19, 2), (372, .invokestatic 34, 3), (375, .lstore 4, 2), (377, .goto 16, 3), (380, .lload 6, 2), (382, .iload 16, 2), (384, .iload 18, 2), (386, .iload 19, 2), (388, .invokestatic 34, 3), (391, .lstore 6, 2), (393, .iinc 18 1, 3), (396, .goto (-57), 3), (399, .iload 8, 2), (401, .iconst 1, 1), (402, .iload 16, 2), (404, .ishl, 1), (405, .iconst (-1), 1), (406, .ixor, 1), (407, .iand, 1), (408, .istore 8, 2), (410, .goto 72, 3), (413, .iload 12, 2), (415, .bipush 6, 2), (417, .if_icmp .ne 47, 3), (420, .iload 10, 2), (422, .bipush 13, 2), (424, .iushr, 1), (425, .iconst 1, 1), (426, .iand, 1), (427, .ifCond .ne 18, 3), (430, .aload_n 3, 1), (431, .iload 11, 2), (433, .bipush 127, 2), (435, .iand, 1), (436, .bipush 32, 2), (438, .isub, 1), (439, .invokevirtual 44, 3), (442, .goto 40, 3), (445, .aload_n 3, 1), (446, .iload 14, 2), (448, .invokevirtual 48, 3), (451, .pop, 1), (452, .iload 8, 2), (454, .iconst 1, 1), (455, .iload 14, 2), (457, .ishl, 1), (458, .ior, 1), (459, .istore 8, 2), (461, .goto 21, 3), (464, .aload_n 3, 1), (465, .invokevirtual 52, 3), (468, .sipush 255, 3), (471, .istore 8, 2), (473, .aload_n 3, 1), (474, .invokevirtual 55, 3), (477, .ifCond .eq 5, 3), (480, .iconst 0, 1), (481, .ireturn, 1), (482, .iconst 0, 1), (483, .istore 18, 2), (485, .iload 18, 2), (487, .bipush 8, 2), (489, .if_icmp .ge 58, 3), (492, .iload 8, 2), (494, .iconst 1, 1), (495, .iload 18, 2), (497, .ishl, 1), (498, .iand, 1), (499, .ifCond .eq 42, 3), (502, .iconst 0, 1), (503, .istore 19, 2), (505, .iload 19, 2), (507, .iconst 4, 1), (508, .if_icmp .ge 33, 3), (511, .aload_n 3, 1), (512, .iload 18, 2), (514, .iload 19, 2), (516, .invokevirtual 59, 3), (519, .lload 4, 2), (521, .lload 6, 2), (523, .iload 18, 2), (525, .iload 19, 2), (527, .invokestatic 26, 3), (530, .if_icmp .eq 5, 3), (533, .iconst 0, 1), (534, .ireturn, 1), (535, .iinc 19 1, 3), (538, .goto (-33), 3), (541, .iinc 18 1, 3), (544, .goto (-59), 3), (547, .iinc 9 2, 3), (550, .goto (-508), 3), (553, .iconst 1, 1), (554, .ireturn, 1)], 20, 9, 224)
def lm2 : Me := ("cell", "([II)I", 2, 1, [(0, .iload_n 1, 1), (1, .aload_n 0, 1), (2, .arraylength, 1), (3, .if_icmp .ge 9, 3), (6, .aload_n 0, 1), (7, .iload_n 1, 1), (8, .iaload, 1), (9, .goto 4, 3), (12, .iconst 0, 1), (13, .ireturn, 1)], 2, 0, 0)
def lm3 : Me := ("get", "(JJII)I", 4, 1, [(0, .iload 4, 2), (2, .iconst 4, 1), (3, .if_icmp .ge 7, 3), (6, .lload_n 0, 1), (7, .goto 4, 3), (10, .lload_n 2, 1), (11, .lstore 6, 2), (13, .iload 4, 2), (15, .iconst 3, 1), (16, .iand, 1), (17, .iconst 4, 1), (18, .imul, 1), (19, .iload 5, 2), (21, .iadd, 1), (22, .iconst 4, 1), (23, .imul, 1), (24, .istore 8, 2), (26, .lload 6, 2), (28, .iload 8, 2), (30, .lushr, 1), (31, .ldc2_w 7, 3), (34, .land, 1), (35, .l2i, 1), (36, .ireturn, 1)], 9, 0, 0)
def lm4 : Me := ("put", "(JIII)J", 4, 3, [(0, .iload_n 2, 1), (1, .iconst 3, 1), (2, .iand, 1), (3, .iconst 4, 1), (4, .imul, 1), (5, .iload_n 3, 1), (6, .iadd, 1), (7, .iconst 4, 1), (8, .imul, 1), (9, .istore 5, 2), (11, .lload_n 0, 1), (12, .ldc2_w 7, 3), (15, .iload 5, 2), (17, .lshl, 1), (18, .ldc2_w 9, 3), (21, .lxor, 1), (22, .land, 1), (23, .iload 4, 2), (25, .bipush 15, 2), (27, .iand, 1), (28, .i2l, 1), (29, .iload 5, 2), (31, .lshl, 1), (32, .lor, 1), (33, .lreturn, 1)], 6, 0, 0)
def QQ : Lw := ("BlockBufferCacheOwnLaw", [(11, 2), (26, 3), (34, 4)], [(22, 5), (30, 6), (38, 7), (41, 8), (44, 9), (48, 10), (52, 11), (55, 13), (59, 12)], 19, 17, 22, [(7, .long (15 : Int64)), (9, .long (-1 : Int64))], [(0, lm0), (2, lm2), (3, lm3), (4, lm4)], 48, 768)
set_option maxRecDepth 100000
set_option maxHeartbeats 1000000
theorem dk_l2 : chk method_2_code lm2.cd = true := by decide +kernel
theorem dk_c0 : chk prog_1_method_1_code cm0.cd = true := by decide +kernel
theorem dk_c18 : chk prog_1_method_18_code cm18.cd = true := by decide +kernel
theorem dk_c6 : chk prog_1_method_6_code cm6.cd = true := by decide +kernel
theorem dk_c19 : chk prog_1_method_19_code cm19.cd = true := by decide +kernel
theorem dk_c20 : chk prog_1_method_20_code cm20.cd = true := by decide +kernel
theorem dk_c21 : chk prog_1_method_21_code cm21.cd = true := by decide +kernel
theorem dk_c32 : chk prog_1_method_32_code cm32.cd = true := by decide +kernel
theorem dk_c31 : chk prog_1_method_31_code cm31.cd = true := by decide +kernel
theorem dk_c33 : chk prog_1_method_33_code cm33.cd = true := by decide +kernel
theorem dk_c34 : chk prog_1_method_34_code cm34.cd = true := by decide +kernel
theorem dk_c30 : chk prog_1_method_30_code cm30.cd = true := by decide +kernel
theorem dk_c36 : chk prog_1_method_36_code cm36.cd = true := by decide +kernel
theorem dk_c35 : chk prog_1_method_35_code cm35.cd = true := by decide +kernel
theorem dk_c22 : chk prog_1_method_22_code cm22.cd = true := by decide +kernel
theorem dk_c40 : chk prog_1_method_40_code cm40.cd = true := by decide +kernel
theorem dk_c38 : chk prog_1_method_38_code cm38.cd = true := by decide +kernel
theorem dk_c39 : chk prog_1_method_39_code cm39.cd = true := by decide +kernel
theorem dk_c41 : chk prog_1_method_41_code cm41.cd = true := by decide +kernel
theorem dk_c42 : chk prog_1_method_42_code cm42.cd = true := by decide +kernel
theorem dk_c25 : chk prog_1_method_25_code cm25.cd = true := by decide +kernel
theorem dk_c27 : chk prog_1_method_27_code cm27.cd = true := by decide +kernel
theorem dk_c29 : chk prog_1_method_29_code cm29.cd = true := by decide +kernel
theorem dk_l4 : chk method_4_code lm4.cd = true := by decide +kernel
theorem dk_c5 : chk prog_1_method_5_code cm5.cd = true := by decide +kernel
theorem dk_c24 : chk prog_1_method_24_code cm24.cd = true := by decide +kernel
theorem dk_l3 : chk method_3_code lm3.cd = true := by decide +kernel
theorem dk_c7 : chk prog_1_method_7_code cm7.cd = true := by decide +kernel
theorem dk_c28 : chk prog_1_method_28_code cm28.cd = true := by decide +kernel
theorem dk_c8 : chk prog_1_method_8_code cm8.cd = true := by decide +kernel
theorem dk_c9 : chk prog_1_method_9_code cm9.cd = true := by decide +kernel
theorem dk_c11 : chk prog_1_method_11_code cm11.cd = true := by decide +kernel
theorem dk_c37 : chk prog_1_method_37_code cm37.cd = true := by decide +kernel
theorem dk_c13 : chk prog_1_method_13_code cm13.cd = true := by decide +kernel
theorem dk_c12 : chk prog_1_method_12_code cm12.cd = true := by decide +kernel
theorem dk_c23 : chk prog_1_method_23_code cm23.cd = true := by decide +kernel
theorem dk_c10 : chk prog_1_method_10_code cm10.cd = true := by decide +kernel
theorem dk_l0 : chk code lm0.cd = true := by decide +kernel
theorem pk_l2 : parseMethodDescriptor "([II)I" = some ⟨[.array .int, .int], some .int⟩ := by decide +kernel
theorem pk_c0 : parseMethodDescriptor "(III)V" = some ⟨[.int, .int, .int], none⟩ := by decide +kernel
theorem pk_c18 : parseMethodDescriptor "(III)I" = some ⟨[.int, .int, .int], some .int⟩ := by decide +kernel
theorem pk_c6 : parseMethodDescriptor "(IIII)I" = some ⟨[.int, .int, .int, .int], some .int⟩ := by decide +kernel
theorem pk_c19 : parseMethodDescriptor "(I)Z" = some ⟨[.int], some .boolean⟩ := by decide +kernel
theorem pk_c20 : parseMethodDescriptor "(I)Z" = some ⟨[.int], some .boolean⟩ := by decide +kernel
theorem pk_c21 : parseMethodDescriptor "(I)Z" = some ⟨[.int], some .boolean⟩ := by decide +kernel
theorem pk_c32 : parseMethodDescriptor "(IIZ)I" = some ⟨[.int, .int, .boolean], some .int⟩ := by decide +kernel
theorem pk_c31 : parseMethodDescriptor "(I)I" = some ⟨[.int], some .int⟩ := by decide +kernel
theorem pk_c33 : parseMethodDescriptor "()I" = some ⟨[], some .int⟩ := by decide +kernel
theorem pk_c34 : parseMethodDescriptor "()I" = some ⟨[], some .int⟩ := by decide +kernel
theorem pk_c30 : parseMethodDescriptor "(I)V" = some ⟨[.int], none⟩ := by decide +kernel
theorem pk_c36 : parseMethodDescriptor "(IIZ)Z" = some ⟨[.int, .int, .boolean], some .boolean⟩ := by decide +kernel
theorem pk_c35 : parseMethodDescriptor "(II)V" = some ⟨[.int, .int], none⟩ := by decide +kernel
theorem pk_c22 : parseMethodDescriptor "(I)Z" = some ⟨[.int], some .boolean⟩ := by decide +kernel
theorem pk_c40 : parseMethodDescriptor "()Z" = some ⟨[], some .boolean⟩ := by decide +kernel
theorem pk_c38 : parseMethodDescriptor "()I" = some ⟨[], some .int⟩ := by decide +kernel
theorem pk_c39 : parseMethodDescriptor "(I)V" = some ⟨[.int], none⟩ := by decide +kernel
theorem pk_c41 : parseMethodDescriptor "(IIZ)V" = some ⟨[.int, .int, .boolean], none⟩ := by decide +kernel
theorem pk_c42 : parseMethodDescriptor "(I)V" = some ⟨[.int], none⟩ := by decide +kernel
theorem pk_c25 : parseMethodDescriptor "(IIII)V" = some ⟨[.int, .int, .int, .int], none⟩ := by decide +kernel
theorem pk_c27 : parseMethodDescriptor "(I)V" = some ⟨[.int], none⟩ := by decide +kernel
theorem pk_c29 : parseMethodDescriptor "(I)V" = some ⟨[.int], none⟩ := by decide +kernel
theorem pk_l4 : parseMethodDescriptor "(JIII)J" = some ⟨[.long, .int, .int, .int], some .long⟩ := by decide +kernel
theorem pk_c5 : parseMethodDescriptor "(III)I" = some ⟨[.int, .int, .int], some .int⟩ := by decide +kernel
theorem pk_c24 : parseMethodDescriptor "(III)I" = some ⟨[.int, .int, .int], some .int⟩ := by decide +kernel
theorem pk_l3 : parseMethodDescriptor "(JJII)I" = some ⟨[.long, .long, .int, .int], some .int⟩ := by decide +kernel
theorem pk_c7 : parseMethodDescriptor "(III)I" = some ⟨[.int, .int, .int], some .int⟩ := by decide +kernel
theorem pk_c28 : parseMethodDescriptor "(I)V" = some ⟨[.int], none⟩ := by decide +kernel
theorem pk_c8 : parseMethodDescriptor "(III)I" = some ⟨[.int, .int, .int], some .int⟩ := by decide +kernel
theorem pk_c9 : parseMethodDescriptor "(I)V" = some ⟨[.int], none⟩ := by decide +kernel
theorem pk_c11 : parseMethodDescriptor "()V" = some ⟨[], none⟩ := by decide +kernel
theorem pk_c37 : parseMethodDescriptor "()V" = some ⟨[], none⟩ := by decide +kernel
theorem pk_c13 : parseMethodDescriptor "()I" = some ⟨[], some .int⟩ := by decide +kernel
theorem pk_c12 : parseMethodDescriptor "(II)I" = some ⟨[.int, .int], some .int⟩ := by decide +kernel
theorem pk_c23 : parseMethodDescriptor "(IIII)V" = some ⟨[.int, .int, .int, .int], none⟩ := by decide +kernel
theorem pk_c10 : parseMethodDescriptor "(I)I" = some ⟨[.int], some .int⟩ := by decide +kernel
theorem lkC (Z : State) (a0 : Array Value) (hw : ∀ d ∈ tables_1, d.before a0 Z = true) : LinkC PP Z a0 :=
  ⟨⟨⟨22, (hw _ (List.mem_of_getElem? (i := 5) rfl))⟩, (hw _ (List.mem_of_getElem? (i := 6) rfl))⟩,
   asc_all (⟨by intro z h; obtain rfl : ("disk", "[I", 3, true) = z := Option.some.inj h; exact (hw _ (List.mem_of_getElem? (i := 14) rfl)), by intro z h; obtain rfl : ("known", "[Z", 4, true) = z := Option.some.inj h; exact (hw _ (List.mem_of_getElem? (i := 17) rfl)), by intro z h; obtain rfl : ("bufData", "[I", 5, true) = z := Option.some.inj h; exact (hw _ (List.mem_of_getElem? (i := 19) rfl)), by intro z h; obtain rfl : ("bufBlock", "[I", 6, true) = z := Option.some.inj h; exact (hw _ (List.mem_of_getElem? (i := 21) rfl)), by intro z h; obtain rfl : ("valid", "[Z", 7, true) = z := Option.some.inj h; exact (hw _ (List.mem_of_getElem? (i := 23) rfl)), by intro z h; obtain rfl : ("dirty", "[Z", 8, true) = z := Option.some.inj h; exact (hw _ (List.mem_of_getElem? (i := 25) rfl)), by intro z h; obtain rfl : ("busy", "[Z", 9, true) = z := Option.some.inj h; exact (hw _ (List.mem_of_getElem? (i := 27) rfl)), by intro z h; obtain rfl : ("held", "[Z", 10, true) = z := Option.some.inj h; exact (hw _ (List.mem_of_getElem? (i := 29) rfl)), by intro z h; obtain rfl : ("lastUse", "[I", 11, true) = z := Option.some.inj h; exact (hw _ (List.mem_of_getElem? (i := 31) rfl)), by intro z h; obtain rfl : ("qBuf", "[I", 12, true) = z := Option.some.inj h; exact (hw _ (List.mem_of_getElem? (i := 33) rfl)), by intro z h; obtain rfl : ("qBlock", "[I", 13, true) = z := Option.some.inj h; exact (hw _ (List.mem_of_getElem? (i := 35) rfl)), by intro z h; obtain rfl : ("qWrite", "[Z", 14, true) = z := Option.some.inj h; exact (hw _ (List.mem_of_getElem? (i := 37) rfl)), by intro z h; obtain rfl : ("last", "[I", 15, true) = z := Option.some.inj h; exact (hw _ (List.mem_of_getElem? (i := 39) rfl)), by intro z h; obtain rfl : ("reads", "[I", 16, true) = z := Option.some.inj h; exact (hw _ (List.mem_of_getElem? (i := 41) rfl)), by intro z h; obtain rfl : ("writes", "[I", 17, true) = z := Option.some.inj h; exact (hw _ (List.mem_of_getElem? (i := 43) rfl)), by intro z h; obtain rfl : ("waitBuf", "[I", 18, true) = z := Option.some.inj h; exact (hw _ (List.mem_of_getElem? (i := 45) rfl)), by intro z h; obtain rfl : ("nBlocks", "I", 0, false) = z := Option.some.inj h; exact (hw _ (List.mem_of_getElem? (i := 51) rfl)), by intro z h; obtain rfl : ("nBufs", "I", 0, false) = z := Option.some.inj h; exact (hw _ (List.mem_of_getElem? (i := 53) rfl)), by intro z h; obtain rfl : ("nProcs", "I", 0, false) = z := Option.some.inj h; exact (hw _ (List.mem_of_getElem? (i := 55) rfl)), by intro z h; obtain rfl : ("tick", "I", 0, false) = z := Option.some.inj h; exact (hw _ (List.mem_of_getElem? (i := 57) rfl)), by intro z h; obtain rfl : ("qLen", "I", 0, false) = z := Option.some.inj h; exact (hw _ (List.mem_of_getElem? (i := 59) rfl)), by intro z h; obtain rfl : ("head", "I", 0, false) = z := Option.some.inj h; exact (hw _ (List.mem_of_getElem? (i := 61) rfl)), trivial⟩),
   asc_all (⟨(hw _ (List.mem_of_getElem? (i := 52) rfl)), (hw _ (List.mem_of_getElem? (i := 54) rfl)), (hw _ (List.mem_of_getElem? (i := 56) rfl)), (hw _ (List.mem_of_getElem? (i := 15) rfl)), (hw _ (List.mem_of_getElem? (i := 18) rfl)), (hw _ (List.mem_of_getElem? (i := 20) rfl)), (hw _ (List.mem_of_getElem? (i := 22) rfl)), (hw _ (List.mem_of_getElem? (i := 24) rfl)), (hw _ (List.mem_of_getElem? (i := 26) rfl)), (hw _ (List.mem_of_getElem? (i := 28) rfl)), (hw _ (List.mem_of_getElem? (i := 30) rfl)), (hw _ (List.mem_of_getElem? (i := 32) rfl)), (hw _ (List.mem_of_getElem? (i := 58) rfl)), (hw _ (List.mem_of_getElem? (i := 34) rfl)), (hw _ (List.mem_of_getElem? (i := 36) rfl)), (hw _ (List.mem_of_getElem? (i := 38) rfl)), (hw _ (List.mem_of_getElem? (i := 60) rfl)), (hw _ (List.mem_of_getElem? (i := 62) rfl)), (hw _ (List.mem_of_getElem? (i := 40) rfl)), (hw _ (List.mem_of_getElem? (i := 42) rfl)), (hw _ (List.mem_of_getElem? (i := 44) rfl)), (hw _ (List.mem_of_getElem? (i := 46) rfl)), trivial⟩),
   asc_all (⟨(by decide +kernel), (by decide +kernel), (by decide +kernel), (by decide +kernel), (by decide +kernel), (by decide +kernel), (by decide +kernel), (by decide +kernel), (by decide +kernel), (by decide +kernel), (by decide +kernel), (by decide +kernel), (by decide +kernel), (by decide +kernel), (by decide +kernel), (by decide +kernel), (by decide +kernel), (by decide +kernel), (by decide +kernel), (by decide +kernel), (by decide +kernel), (by decide +kernel), trivial⟩),
   dst_ok (by decide +kernel),
   lst_all (⟨⟨by decide, (hw _ (List.mem_of_getElem? (i := 13) rfl))⟩, ⟨by decide, (hw _ (List.mem_of_getElem? (i := 16) rfl))⟩, ⟨by decide, (hw _ (List.mem_of_getElem? (i := 13) rfl))⟩, ⟨by decide, (hw _ (List.mem_of_getElem? (i := 13) rfl))⟩, ⟨by decide, (hw _ (List.mem_of_getElem? (i := 16) rfl))⟩, ⟨by decide, (hw _ (List.mem_of_getElem? (i := 16) rfl))⟩, ⟨by decide, (hw _ (List.mem_of_getElem? (i := 16) rfl))⟩, ⟨by decide, (hw _ (List.mem_of_getElem? (i := 16) rfl))⟩, ⟨by decide, (hw _ (List.mem_of_getElem? (i := 13) rfl))⟩, ⟨by decide, (hw _ (List.mem_of_getElem? (i := 13) rfl))⟩, ⟨by decide, (hw _ (List.mem_of_getElem? (i := 13) rfl))⟩, ⟨by decide, (hw _ (List.mem_of_getElem? (i := 16) rfl))⟩, ⟨by decide, (hw _ (List.mem_of_getElem? (i := 13) rfl))⟩, ⟨by decide, (hw _ (List.mem_of_getElem? (i := 13) rfl))⟩, ⟨by decide, (hw _ (List.mem_of_getElem? (i := 13) rfl))⟩, ⟨by decide, (hw _ (List.mem_of_getElem? (i := 13) rfl))⟩, trivial⟩),
   asc_all (⟨(hw _ (List.mem_of_getElem? (i := 132) rfl)), trivial⟩),
   ⟨(hw _ (List.mem_of_getElem? (i := 10) rfl)), (hw _ (List.mem_of_getElem? (i := 11) rfl)), (hw _ (List.mem_of_getElem? (i := 12) rfl))⟩,
   asc_all (⟨⟨prog_1_method_1_code, [.int, .int, .int], (hw _ (List.mem_of_getElem? (i := 9) rfl)), chk_ok dk_c0, pk_c0, rfl⟩, ⟨prog_1_method_5_code, [.int, .int, .int], (hw _ (List.mem_of_getElem? (i := 154) rfl)), chk_ok dk_c5, pk_c5, rfl⟩, ⟨prog_1_method_6_code, [.int, .int, .int, .int], (hw _ (List.mem_of_getElem? (i := 67) rfl)), chk_ok dk_c6, pk_c6, rfl⟩, ⟨prog_1_method_7_code, [.int, .int, .int], (hw _ (List.mem_of_getElem? (i := 166) rfl)), chk_ok dk_c7, pk_c7, rfl⟩, ⟨prog_1_method_8_code, [.int, .int, .int], (hw _ (List.mem_of_getElem? (i := 175) rfl)), chk_ok dk_c8, pk_c8, rfl⟩, ⟨prog_1_method_9_code, [.int], (hw _ (List.mem_of_getElem? (i := 180) rfl)), chk_ok dk_c9, pk_c9, rfl⟩, ⟨prog_1_method_10_code, [.int], (hw _ (List.mem_of_getElem? (i := 208) rfl)), chk_ok dk_c10, pk_c10, rfl⟩, ⟨prog_1_method_11_code, [], (hw _ (List.mem_of_getElem? (i := 185) rfl)), chk_ok dk_c11, pk_c11, rfl⟩, ⟨prog_1_method_12_code, [.int, .int], (hw _ (List.mem_of_getElem? (i := 199) rfl)), chk_ok dk_c12, pk_c12, rfl⟩, ⟨prog_1_method_13_code, [], (hw _ (List.mem_of_getElem? (i := 194) rfl)), chk_ok dk_c13, pk_c13, rfl⟩, ⟨prog_1_method_18_code, [.int, .int, .int], (hw _ (List.mem_of_getElem? (i := 50) rfl)), chk_ok dk_c18, pk_c18, rfl⟩, ⟨prog_1_method_19_code, [.int], (hw _ (List.mem_of_getElem? (i := 71) rfl)), chk_ok dk_c19, pk_c19, rfl⟩, ⟨prog_1_method_20_code, [.int], (hw _ (List.mem_of_getElem? (i := 75) rfl)), chk_ok dk_c20, pk_c20, rfl⟩, ⟨prog_1_method_21_code, [.int], (hw _ (List.mem_of_getElem? (i := 79) rfl)), chk_ok dk_c21, pk_c21, rfl⟩, ⟨prog_1_method_22_code, [.int], (hw _ (List.mem_of_getElem? (i := 111) rfl)), chk_ok dk_c22, pk_c22, rfl⟩, ⟨prog_1_method_23_code, [.int, .int, .int, .int], (hw _ (List.mem_of_getElem? (i := 203) rfl)), chk_ok dk_c23, pk_c23, rfl⟩, ⟨prog_1_method_24_code, [.int, .int, .int], (hw _ (List.mem_of_getElem? (i := 158) rfl)), chk_ok dk_c24, pk_c24, rfl⟩, ⟨prog_1_method_25_code, [.int, .int, .int, .int], (hw _ (List.mem_of_getElem? (i := 136) rfl)), chk_ok dk_c25, pk_c25, rfl⟩, ⟨prog_1_method_27_code, [.int], (hw _ (List.mem_of_getElem? (i := 140) rfl)), chk_ok dk_c27, pk_c27, rfl⟩, ⟨prog_1_method_28_code, [.int], (hw _ (List.mem_of_getElem? (i := 170) rfl)), chk_ok dk_c28, pk_c28, rfl⟩, ⟨prog_1_method_29_code, [.int], (hw _ (List.mem_of_getElem? (i := 144) rfl)), chk_ok dk_c29, pk_c29, rfl⟩, ⟨prog_1_method_30_code, [.int], (hw _ (List.mem_of_getElem? (i := 99) rfl)), chk_ok dk_c30, pk_c30, rfl⟩, ⟨prog_1_method_31_code, [.int], (hw _ (List.mem_of_getElem? (i := 87) rfl)), chk_ok dk_c31, pk_c31, rfl⟩, ⟨prog_1_method_32_code, [.int, .int, .boolean], (hw _ (List.mem_of_getElem? (i := 83) rfl)), chk_ok dk_c32, pk_c32, rfl⟩, ⟨prog_1_method_33_code, [], (hw _ (List.mem_of_getElem? (i := 91) rfl)), chk_ok dk_c33, pk_c33, rfl⟩, ⟨prog_1_method_34_code, [], (hw _ (List.mem_of_getElem? (i := 95) rfl)), chk_ok dk_c34, pk_c34, rfl⟩, ⟨prog_1_method_35_code, [.int, .int], (hw _ (List.mem_of_getElem? (i := 107) rfl)), chk_ok dk_c35, pk_c35, rfl⟩, ⟨prog_1_method_36_code, [.int, .int, .boolean], (hw _ (List.mem_of_getElem? (i := 103) rfl)), chk_ok dk_c36, pk_c36, rfl⟩, ⟨prog_1_method_37_code, [], (hw _ (List.mem_of_getElem? (i := 189) rfl)), chk_ok dk_c37, pk_c37, rfl⟩, ⟨prog_1_method_38_code, [], (hw _ (List.mem_of_getElem? (i := 119) rfl)), chk_ok dk_c38, pk_c38, rfl⟩, ⟨prog_1_method_39_code, [.int], (hw _ (List.mem_of_getElem? (i := 123) rfl)), chk_ok dk_c39, pk_c39, rfl⟩, ⟨prog_1_method_40_code, [], (hw _ (List.mem_of_getElem? (i := 115) rfl)), chk_ok dk_c40, pk_c40, rfl⟩, ⟨prog_1_method_41_code, [.int, .int, .boolean], (hw _ (List.mem_of_getElem? (i := 127) rfl)), chk_ok dk_c41, pk_c41, rfl⟩, ⟨prog_1_method_42_code, [.int], (hw _ (List.mem_of_getElem? (i := 131) rfl)), chk_ok dk_c42, pk_c42, rfl⟩, trivial⟩),
   asc_all (⟨by intro z h; obtain rfl : cm18 = z := Option.some.inj h; exact ⟨(hw _ (List.mem_of_getElem? (i := 47) rfl)), (hw _ (List.mem_of_getElem? (i := 48) rfl)), Or.inl (hw _ (List.mem_of_getElem? (i := 49) rfl))⟩, by intro z h; obtain rfl : cm19 = z := Option.some.inj h; exact ⟨(hw _ (List.mem_of_getElem? (i := 68) rfl)), (hw _ (List.mem_of_getElem? (i := 69) rfl)), Or.inl (hw _ (List.mem_of_getElem? (i := 70) rfl))⟩, by intro z h; obtain rfl : cm20 = z := Option.some.inj h; exact ⟨(hw _ (List.mem_of_getElem? (i := 72) rfl)), (hw _ (List.mem_of_getElem? (i := 73) rfl)), Or.inl (hw _ (List.mem_of_getElem? (i := 74) rfl))⟩, by intro z h; obtain rfl : cm21 = z := Option.some.inj h; exact ⟨(hw _ (List.mem_of_getElem? (i := 76) rfl)), (hw _ (List.mem_of_getElem? (i := 77) rfl)), Or.inl (hw _ (List.mem_of_getElem? (i := 78) rfl))⟩, by intro z h; obtain rfl : cm32 = z := Option.some.inj h; exact ⟨(hw _ (List.mem_of_getElem? (i := 80) rfl)), (hw _ (List.mem_of_getElem? (i := 81) rfl)), Or.inl (hw _ (List.mem_of_getElem? (i := 82) rfl))⟩, by intro z h; obtain rfl : cm24 = z := Option.some.inj h; exact ⟨(hw _ (List.mem_of_getElem? (i := 155) rfl)), (hw _ (List.mem_of_getElem? (i := 156) rfl)), Or.inl (hw _ (List.mem_of_getElem? (i := 157) rfl))⟩, by intro z h; obtain rfl : cm29 = z := Option.some.inj h; exact ⟨(hw _ (List.mem_of_getElem? (i := 141) rfl)), (hw _ (List.mem_of_getElem? (i := 142) rfl)), Or.inl (hw _ (List.mem_of_getElem? (i := 143) rfl))⟩, by intro z h; obtain rfl : cm25 = z := Option.some.inj h; exact ⟨(hw _ (List.mem_of_getElem? (i := 133) rfl)), (hw _ (List.mem_of_getElem? (i := 134) rfl)), Or.inl (hw _ (List.mem_of_getElem? (i := 135) rfl))⟩, by intro z h; obtain rfl : cm27 = z := Option.some.inj h; exact ⟨(hw _ (List.mem_of_getElem? (i := 137) rfl)), (hw _ (List.mem_of_getElem? (i := 138) rfl)), Or.inl (hw _ (List.mem_of_getElem? (i := 139) rfl))⟩, by intro z h; obtain rfl : cm28 = z := Option.some.inj h; exact ⟨(hw _ (List.mem_of_getElem? (i := 167) rfl)), (hw _ (List.mem_of_getElem? (i := 168) rfl)), Or.inl (hw _ (List.mem_of_getElem? (i := 169) rfl))⟩, by intro z h; obtain rfl : cm23 = z := Option.some.inj h; exact ⟨(hw _ (List.mem_of_getElem? (i := 200) rfl)), (hw _ (List.mem_of_getElem? (i := 201) rfl)), Or.inl (hw _ (List.mem_of_getElem? (i := 202) rfl))⟩, by intro z h; obtain rfl : cm40 = z := Option.some.inj h; exact ⟨(hw _ (List.mem_of_getElem? (i := 112) rfl)), (hw _ (List.mem_of_getElem? (i := 113) rfl)), Or.inl (hw _ (List.mem_of_getElem? (i := 114) rfl))⟩, by intro z h; obtain rfl : cm31 = z := Option.some.inj h; exact ⟨(hw _ (List.mem_of_getElem? (i := 84) rfl)), (hw _ (List.mem_of_getElem? (i := 85) rfl)), Or.inl (hw _ (List.mem_of_getElem? (i := 86) rfl))⟩, by intro z h; obtain rfl : cm35 = z := Option.some.inj h; exact ⟨(hw _ (List.mem_of_getElem? (i := 104) rfl)), (hw _ (List.mem_of_getElem? (i := 105) rfl)), Or.inl (hw _ (List.mem_of_getElem? (i := 106) rfl))⟩, by intro z h; obtain rfl : cm36 = z := Option.some.inj h; exact ⟨(hw _ (List.mem_of_getElem? (i := 100) rfl)), (hw _ (List.mem_of_getElem? (i := 101) rfl)), Or.inl (hw _ (List.mem_of_getElem? (i := 102) rfl))⟩, by intro z h; obtain rfl : cm37 = z := Option.some.inj h; exact ⟨(hw _ (List.mem_of_getElem? (i := 186) rfl)), (hw _ (List.mem_of_getElem? (i := 187) rfl)), Or.inl (hw _ (List.mem_of_getElem? (i := 188) rfl))⟩, by intro z h; obtain rfl : cm22 = z := Option.some.inj h; exact ⟨(hw _ (List.mem_of_getElem? (i := 108) rfl)), (hw _ (List.mem_of_getElem? (i := 109) rfl)), Or.inl (hw _ (List.mem_of_getElem? (i := 110) rfl))⟩, by intro z h; obtain rfl : cm33 = z := Option.some.inj h; exact ⟨(hw _ (List.mem_of_getElem? (i := 88) rfl)), (hw _ (List.mem_of_getElem? (i := 89) rfl)), Or.inl (hw _ (List.mem_of_getElem? (i := 90) rfl))⟩, by intro z h; obtain rfl : cm30 = z := Option.some.inj h; exact ⟨(hw _ (List.mem_of_getElem? (i := 96) rfl)), (hw _ (List.mem_of_getElem? (i := 97) rfl)), Or.inl (hw _ (List.mem_of_getElem? (i := 98) rfl))⟩, by intro z h; obtain rfl : cm34 = z := Option.some.inj h; exact ⟨(hw _ (List.mem_of_getElem? (i := 92) rfl)), (hw _ (List.mem_of_getElem? (i := 93) rfl)), Or.inl (hw _ (List.mem_of_getElem? (i := 94) rfl))⟩, by intro z h; obtain rfl : cm38 = z := Option.some.inj h; exact ⟨(hw _ (List.mem_of_getElem? (i := 116) rfl)), (hw _ (List.mem_of_getElem? (i := 117) rfl)), Or.inl (hw _ (List.mem_of_getElem? (i := 118) rfl))⟩, by intro z h; obtain rfl : cm39 = z := Option.some.inj h; exact ⟨(hw _ (List.mem_of_getElem? (i := 120) rfl)), (hw _ (List.mem_of_getElem? (i := 121) rfl)), Or.inl (hw _ (List.mem_of_getElem? (i := 122) rfl))⟩, by intro z h; obtain rfl : cm41 = z := Option.some.inj h; exact ⟨(hw _ (List.mem_of_getElem? (i := 124) rfl)), (hw _ (List.mem_of_getElem? (i := 125) rfl)), Or.inl (hw _ (List.mem_of_getElem? (i := 126) rfl))⟩, by intro z h; obtain rfl : cm42 = z := Option.some.inj h; exact ⟨(hw _ (List.mem_of_getElem? (i := 128) rfl)), (hw _ (List.mem_of_getElem? (i := 129) rfl)), Or.inl (hw _ (List.mem_of_getElem? (i := 130) rfl))⟩, trivial⟩),
   (by first | (simp [plainName, overriddenIn]; done) | decide +kernel),
   (by decide),
   (by intro me h; obtain rfl : cm0 = me := Option.some.inj h; rfl)⟩
theorem lkL (Z : State) (a0 : Array Value) (hw : ∀ d ∈ tables_1, d.before a0 Z = true) : LinkL PP QQ Z a0 :=
  ⟨⟨(hw _ (List.mem_of_getElem? (i := 4) rfl)), (hw _ (List.mem_of_getElem? (i := 5) rfl))⟩,
   (by intro me h; obtain rfl : cm0 = me := Option.some.inj h; exact ⟨(hw _ (List.mem_of_getElem? (i := 7) rfl)), (hw _ (List.mem_of_getElem? (i := 8) rfl)), rfl⟩),
   asc_all (⟨by intro z h; obtain rfl : cm5 = z := Option.some.inj h; exact ⟨(hw _ (List.mem_of_getElem? (i := 150) rfl)), (hw _ (List.mem_of_getElem? (i := 151) rfl)), (hw _ (List.mem_of_getElem? (i := 152) rfl)), (hw _ (List.mem_of_getElem? (i := 153) rfl))⟩, by intro z h; obtain rfl : cm6 = z := Option.some.inj h; exact ⟨(hw _ (List.mem_of_getElem? (i := 63) rfl)), (hw _ (List.mem_of_getElem? (i := 64) rfl)), (hw _ (List.mem_of_getElem? (i := 65) rfl)), (hw _ (List.mem_of_getElem? (i := 66) rfl))⟩, by intro z h; obtain rfl : cm7 = z := Option.some.inj h; exact ⟨(hw _ (List.mem_of_getElem? (i := 162) rfl)), (hw _ (List.mem_of_getElem? (i := 163) rfl)), (hw _ (List.mem_of_getElem? (i := 164) rfl)), (hw _ (List.mem_of_getElem? (i := 165) rfl))⟩, by intro z h; obtain rfl : cm8 = z := Option.some.inj h; exact ⟨(hw _ (List.mem_of_getElem? (i := 171) rfl)), (hw _ (List.mem_of_getElem? (i := 172) rfl)), (hw _ (List.mem_of_getElem? (i := 173) rfl)), (hw _ (List.mem_of_getElem? (i := 174) rfl))⟩, by intro z h; obtain rfl : cm9 = z := Option.some.inj h; exact ⟨(hw _ (List.mem_of_getElem? (i := 176) rfl)), (hw _ (List.mem_of_getElem? (i := 177) rfl)), (hw _ (List.mem_of_getElem? (i := 178) rfl)), (hw _ (List.mem_of_getElem? (i := 179) rfl))⟩, by intro z h; obtain rfl : cm10 = z := Option.some.inj h; exact ⟨(hw _ (List.mem_of_getElem? (i := 204) rfl)), (hw _ (List.mem_of_getElem? (i := 205) rfl)), (hw _ (List.mem_of_getElem? (i := 206) rfl)), (hw _ (List.mem_of_getElem? (i := 207) rfl))⟩, by intro z h; obtain rfl : cm11 = z := Option.some.inj h; exact ⟨(hw _ (List.mem_of_getElem? (i := 181) rfl)), (hw _ (List.mem_of_getElem? (i := 182) rfl)), (hw _ (List.mem_of_getElem? (i := 183) rfl)), (hw _ (List.mem_of_getElem? (i := 184) rfl))⟩, by intro z h; obtain rfl : cm13 = z := Option.some.inj h; exact ⟨(hw _ (List.mem_of_getElem? (i := 190) rfl)), (hw _ (List.mem_of_getElem? (i := 191) rfl)), (hw _ (List.mem_of_getElem? (i := 192) rfl)), (hw _ (List.mem_of_getElem? (i := 193) rfl))⟩, by intro z h; obtain rfl : cm12 = z := Option.some.inj h; exact ⟨(hw _ (List.mem_of_getElem? (i := 195) rfl)), (hw _ (List.mem_of_getElem? (i := 196) rfl)), (hw _ (List.mem_of_getElem? (i := 197) rfl)), (hw _ (List.mem_of_getElem? (i := 198) rfl))⟩, trivial⟩),
   asc_all (⟨by intro z h; obtain rfl : lm2 = z := Option.some.inj h; exact ⟨(hw _ (List.mem_of_getElem? (i := 0) rfl)), (hw _ (List.mem_of_getElem? (i := 1) rfl)), (hw _ (List.mem_of_getElem? (i := 2) rfl))⟩, by intro z h; obtain rfl : lm3 = z := Option.some.inj h; exact ⟨(hw _ (List.mem_of_getElem? (i := 159) rfl)), (hw _ (List.mem_of_getElem? (i := 160) rfl)), (hw _ (List.mem_of_getElem? (i := 2) rfl))⟩, by intro z h; obtain rfl : lm4 = z := Option.some.inj h; exact ⟨(hw _ (List.mem_of_getElem? (i := 145) rfl)), (hw _ (List.mem_of_getElem? (i := 146) rfl)), (hw _ (List.mem_of_getElem? (i := 2) rfl))⟩, trivial⟩),
   asc_all (⟨(hw _ (List.mem_of_getElem? (i := 148) rfl)), (hw _ (List.mem_of_getElem? (i := 149) rfl)), trivial⟩),
   asc_all (⟨fun h => absurd rfl h, fun _ => ⟨method_2_code, [.array .int, .int], (hw _ (List.mem_of_getElem? (i := 3) rfl)), chk_ok dk_l2, pk_l2, rfl⟩, fun _ => ⟨method_3_code, [.long, .long, .int, .int], (hw _ (List.mem_of_getElem? (i := 161) rfl)), chk_ok dk_l3, pk_l3, rfl⟩, fun _ => ⟨method_4_code, [.long, .int, .int, .int], (hw _ (List.mem_of_getElem? (i := 147) rfl)), chk_ok dk_l4, pk_l4, rfl⟩, trivial⟩),
   (by first | (simp [plainName, overriddenIn]; done) | decide +kernel),
   (by decide)⟩
theorem l2r0W0_in (N : Nat) (sg : Nat → Int32) (a1 : Int32)  (Q : Int32 → Wd → Prop) (h : ((a1 < (Int32.ofNat N)) → inb N a1 ∧ Q (sg (ix a1)) W0) ∧ (¬ (a1 < (Int32.ofNat N)) → Q (0 : Int32) W0)) : lalI PP QQ (some (N, sg)) 2 [.ref 0, .int a1] W0 Q := by
  refine lal_of (me := lm2) (ls := [some (.ref 0), some (.int a1)]) rfl (Nat.le_of_ble_eq_true rfl) rfl ?_
  refine wpl_sl (n := 2) (pc' := 2) (ls' := [some (.ref 0), some (.int a1)]) (st' := [.ref 0, .int a1]) rfl ?_
  refine wpl_len rfl ?_
  refine wpl_icmp (a := 12) (b := 6) rfl (by decide) rfl rfl (wpl_br (p := a1 < (Int32.ofNat N)) ⟨fun hc138 => ?_, fun hc138 => ?_⟩)
  · have h139 := h.1 hc138
    refine wpl_sl (n := 2) (pc' := 8) (ls' := [some (.ref 0), some (.int a1)]) (st' := [.int a1, .ref 0]) rfl ?_
    refine wpl_lda rfl h139.1 ?_
    have h141 := h139.2
    refine wpl_sl (n := 1) (pc' := 13) (ls' := [some (.ref 0), some (.int a1)]) (st' := [.int (sg (ix a1))]) rfl ?_
    exact wpl_ret rfl rfl rfl ⟨(sg (ix a1)), rfl, h141⟩
  · have h140 := h.2 hc138
    refine wpl_sl (n := 1) (pc' := 13) (ls' := [some (.ref 0), some (.int a1)]) (st' := [.int (0 : Int32)]) rfl ?_
    exact wpl_ret rfl rfl rfl ⟨(0 : Int32), rfl, h140⟩
theorem c18_in (a1 : Int32) (a2 : Int32) (a3 : Int32) (s : St) (Q : Int32 → St → Prop) (h : ((a1 < a2) → Q a2 s) ∧ (¬ (a1 < a2) → ((a3 < a1) → Q a3 s) ∧ (¬ (a3 < a1) → Q a1 s))) : calI PP 18 16 [.ref 0, .int a1, .int a2, .int a3] s Q := by
  refine cal_of (me := cm18) (ls := [some (.ref 0), some (.int a1), some (.int a2), some (.int a3)]) rfl (Nat.le_of_ble_eq_true rfl) rfl ?_
  refine wpc_sl (n := 2) (c' := 16) (pc' := 2) (ls' := [some (.ref 0), some (.int a1), some (.int a2), some (.int a3)]) (st' := [.int a2, .int a1]) (s' := s) rfl ?_
  refine wpc_icmp (a := 7) (b := 5) rfl (by decide) rfl rfl (wpc_br (p := a1 < a2) ⟨fun hc164 => ?_, fun hc164 => ?_⟩)
  · have h165 := h.1 hc164
    refine wpc_sl (n := 1) (c' := 16) (pc' := 6) (ls' := [some (.ref 0), some (.int a1), some (.int a2), some (.int a3)]) (st' := [.int a2]) (s' := s) rfl ?_
    exact wpc_ret rfl rfl (fun q => absurd q (by decide)) rfl ⟨a2, rfl, h165⟩
  · have h166 := h.2 hc164
    refine wpc_sl (n := 2) (c' := 16) (pc' := 9) (ls' := [some (.ref 0), some (.int a1), some (.int a2), some (.int a3)]) (st' := [.int a3, .int a1]) (s' := s) rfl ?_
    refine wpc_icmp (a := 14) (b := 12) rfl (by decide) rfl rfl (wpc_br (p := a3 < a1) ⟨fun hc167 => ?_, fun hc167 => ?_⟩)
    · have h168 := h166.1 hc167
      refine wpc_sl (n := 1) (c' := 16) (pc' := 13) (ls' := [some (.ref 0), some (.int a1), some (.int a2), some (.int a3)]) (st' := [.int a3]) (s' := s) rfl ?_
      exact wpc_ret rfl rfl (fun q => absurd q (by decide)) rfl ⟨a3, rfl, h168⟩
    · have h169 := h166.2 hc167
      refine wpc_sl (n := 1) (c' := 16) (pc' := 15) (ls' := [some (.ref 0), some (.int a1), some (.int a2), some (.int a3)]) (st' := [.int a1]) (s' := s) rfl ?_
      exact wpc_ret rfl rfl (fun q => absurd q (by decide)) rfl ⟨a1, rfl, h169⟩
theorem c0_in (a1 : Int32) (a2 : Int32) (a3 : Int32) (s : St) (Q : St → Prop) (h : calI PP 18 16 [.ref 0, .int a1, .int (8 : Int32), .int (32 : Int32)] s (fun v143 s142 => calI PP 18 16 [.ref 0, .int a2, .int (2 : Int32), .int (8 : Int32)] (sI s142 0 14 v143) (fun v146 s145 => calI PP 18 16 [.ref 0, .int a3, .int (1 : Int32), .int (4 : Int32)] (sI s145 0 15 v146) (fun v149 s148 => wpcV PP 0 cm0 16 168 [some (.ref 0), none, none, none, some (.int (0 : Int32))] [] (sI s148 0 16 v149) Q)))) : calV PP 0 0 [.ref 0, .int a1, .int a2, .int a3] s Q := by
  refine cal_of (me := cm0) (ls := [some (.ref 0), some (.int a1), some (.int a2), some (.int a3), none]) rfl (Nat.le_of_ble_eq_true rfl) rfl ?_
  refine wpc_sl (n := 55) (c' := 16) (pc' := 136) (ls' := [some (.ref 0), some (.int a1), some (.int a2), some (.int a3), none]) (st' := [.int (32 : Int32), .int (8 : Int32), .int a1, .ref 0, .ref 0]) (s' := s) rfl ?_
  refine wpc_callI (m' := 18) (me' := cm18) (as := [.int a1, .int (8 : Int32), .int (32 : Int32)]) (r := [.ref 0]) rfl rfl rfl rfl rfl ⟨by decide, (by first | decide | exact Nat.le_of_ble_eq_true rfl), (by first | decide | exact Nat.le_of_ble_eq_true rfl), rfl⟩ (calI.mono h fun v143 s142 h144 => ?_)
  refine wpc_sl (n := 6) (c' := 16) (pc' := 148) (ls' := [some (.ref 0), some (.int a1), some (.int a2), some (.int a3), none]) (st' := [.int (8 : Int32), .int (2 : Int32), .int a2, .ref 0, .ref 0]) (s' := (sI s142 0 14 v143)) rfl ?_
  refine wpc_callI (m' := 18) (me' := cm18) (as := [.int a2, .int (2 : Int32), .int (8 : Int32)]) (r := [.ref 0]) rfl rfl rfl rfl rfl ⟨by decide, (by first | decide | exact Nat.le_of_ble_eq_true rfl), (by first | decide | exact Nat.le_of_ble_eq_true rfl), rfl⟩ (calI.mono h144 fun v146 s145 h147 => ?_)
  refine wpc_sl (n := 6) (c' := 16) (pc' := 159) (ls' := [some (.ref 0), some (.int a1), some (.int a2), some (.int a3), none]) (st' := [.int (4 : Int32), .int (1 : Int32), .int a3, .ref 0, .ref 0]) (s' := (sI s145 0 15 v146)) rfl ?_
  refine wpc_callI (m' := 18) (me' := cm18) (as := [.int a3, .int (1 : Int32), .int (4 : Int32)]) (r := [.ref 0]) rfl rfl rfl rfl rfl ⟨by decide, (by first | decide | exact Nat.le_of_ble_eq_true rfl), (by first | decide | exact Nat.le_of_ble_eq_true rfl), rfl⟩ (calI.mono h147 fun v149 s148 h150 => ?_)
  refine wpc_sl (n := 3) (c' := 16) (pc' := 168) (ls' := [some (.ref 0), some (.int a1), some (.int a2), some (.int a3), some (.int (0 : Int32))]) (st' := []) (s' := (sI s148 0 16 v149)) rfl ?_
  exact wpc_lle (ls := [some (.ref 0), none, none, none, some (.int (0 : Int32))]) ⟨rfl, rfl, trivial⟩ h150
theorem c0_168 (x4 : Int32) (s : St) (Q : St → Prop) (h : ((x4 < (32 : Int32)) → inb 32 x4 ∧ wpcV PP 0 cm0 16 168 [some (.ref 0), none, none, none, some (.int (x4 + (1 : Int32)))] [] (sI s 2 (ix x4) (1 : Int32)) Q) ∧ (¬ (x4 < (32 : Int32)) → wpcV PP 0 cm0 16 192 [some (.ref 0), none, none, none, some (.int (0 : Int32))] [] s Q)) : wpcV PP 0 cm0 16 168 [some (.ref 0), none, none, none, some (.int x4)] [] s Q := by
  refine wpc_sl (n := 2) (c' := 16) (pc' := 172) (ls' := [some (.ref 0), none, none, none, some (.int x4)]) (st' := [.int (32 : Int32), .int x4]) (s' := s) rfl ?_
  refine wpc_icmp (a := 189) (b := 175) rfl (by decide) rfl rfl (wpc_br (p := x4 < (32 : Int32)) ⟨fun hc151 => ?_, fun hc151 => ?_⟩)
  · have h152 := h.1 hc151
    refine wpc_sl (n := 4) (c' := 16) (pc' := 182) (ls' := [some (.ref 0), none, none, none, some (.int x4)]) (st' := [.int (1 : Int32), .int x4, .ref 2]) (s' := s) rfl ?_
    refine wpc_staZ (a := 1) (N := 32) (s' := (sI s 2 (ix x4) (1 : Int32))) rfl rfl (by decide) h152.1 rfl ?_
    have h154 := h152.2
    refine wpc_sl (n := 2) (c' := 16) (pc' := 168) (ls' := [some (.ref 0), none, none, none, some (.int (x4 + (1 : Int32)))]) (st' := []) (s' := (sI s 2 (ix x4) (1 : Int32))) rfl ?_
    exact h154
  · have h153 := h.2 hc151
    refine wpc_sl (n := 2) (c' := 16) (pc' := 192) (ls' := [some (.ref 0), none, none, none, some (.int (0 : Int32))]) (st' := []) (s' := s) rfl ?_
    exact h153
theorem c0_192 (x4 : Int32) (s : St) (Q : St → Prop) (h : ((x4 < (8 : Int32)) → inb 8 x4 ∧ wpcV PP 0 cm0 16 192 [some (.ref 0), none, none, none, some (.int (x4 + (1 : Int32)))] [] (sI s 4 (ix x4) (-1 : Int32)) Q) ∧ (¬ (x4 < (8 : Int32)) → wpcV PP 0 cm0 16 216 [some (.ref 0), none, none, none, some (.int (0 : Int32))] [] s Q)) : wpcV PP 0 cm0 16 192 [some (.ref 0), none, none, none, some (.int x4)] [] s Q := by
  refine wpc_sl (n := 2) (c' := 16) (pc' := 196) (ls' := [some (.ref 0), none, none, none, some (.int x4)]) (st' := [.int (8 : Int32), .int x4]) (s' := s) rfl ?_
  refine wpc_icmp (a := 213) (b := 199) rfl (by decide) rfl rfl (wpc_br (p := x4 < (8 : Int32)) ⟨fun hc155 => ?_, fun hc155 => ?_⟩)
  · have h156 := h.1 hc155
    refine wpc_sl (n := 4) (c' := 16) (pc' := 206) (ls' := [some (.ref 0), none, none, none, some (.int x4)]) (st' := [.int (-1 : Int32), .int x4, .ref 4]) (s' := s) rfl ?_
    refine wpc_staI (a := 3) (N := 8) (s' := (sI s 4 (ix x4) (-1 : Int32))) rfl rfl (by decide) h156.1 rfl ?_
    have h158 := h156.2
    refine wpc_sl (n := 2) (c' := 16) (pc' := 192) (ls' := [some (.ref 0), none, none, none, some (.int (x4 + (1 : Int32)))]) (st' := []) (s' := (sI s 4 (ix x4) (-1 : Int32))) rfl ?_
    exact h158
  · have h157 := h.2 hc155
    refine wpc_sl (n := 2) (c' := 16) (pc' := 216) (ls' := [some (.ref 0), none, none, none, some (.int (0 : Int32))]) (st' := []) (s' := s) rfl ?_
    exact h157
theorem c0_216 (x4 : Int32) (s : St) (Q : St → Prop) (h : ((x4 < (4 : Int32)) → inb 4 x4 ∧ inb 4 x4 ∧ wpcV PP 0 cm0 16 216 [some (.ref 0), none, none, none, some (.int (x4 + (1 : Int32)))] [] (sI (sI s 13 (ix x4) (-5 : Int32)) 16 (ix x4) (-1 : Int32)) Q) ∧ (¬ (x4 < (4 : Int32)) → Q (sI (sI (sI s 0 26 (0 : Int32)) 0 30 (0 : Int32)) 0 31 (0 : Int32)))) : wpcV PP 0 cm0 16 216 [some (.ref 0), none, none, none, some (.int x4)] [] s Q := by
  refine wpc_sl (n := 2) (c' := 16) (pc' := 219) (ls' := [some (.ref 0), none, none, none, some (.int x4)]) (st' := [.int (4 : Int32), .int x4]) (s' := s) rfl ?_
  refine wpc_icmp (a := 245) (b := 222) rfl (by decide) rfl rfl (wpc_br (p := x4 < (4 : Int32)) ⟨fun hc159 => ?_, fun hc159 => ?_⟩)
  · have h160 := h.1 hc159
    refine wpc_sl (n := 4) (c' := 16) (pc' := 230) (ls' := [some (.ref 0), none, none, none, some (.int x4)]) (st' := [.int (-5 : Int32), .int x4, .ref 13]) (s' := s) rfl ?_
    refine wpc_staI (a := 12) (N := 4) (s' := (sI s 13 (ix x4) (-5 : Int32))) rfl rfl (by decide) h160.1 rfl ?_
    have h162 := h160.2
    refine wpc_sl (n := 4) (c' := 16) (pc' := 238) (ls' := [some (.ref 0), none, none, none, some (.int x4)]) (st' := [.int (-1 : Int32), .int x4, .ref 16]) (s' := (sI s 13 (ix x4) (-5 : Int32))) rfl ?_
    refine wpc_staI (a := 15) (N := 4) (s' := (sI (sI s 13 (ix x4) (-5 : Int32)) 16 (ix x4) (-1 : Int32))) rfl rfl (by decide) h162.1 rfl ?_
    have h163 := h162.2
    refine wpc_sl (n := 2) (c' := 16) (pc' := 216) (ls' := [some (.ref 0), none, none, none, some (.int (x4 + (1 : Int32)))]) (st' := []) (s' := (sI (sI s 13 (ix x4) (-5 : Int32)) 16 (ix x4) (-1 : Int32))) rfl ?_
    exact h163
  · have h161 := h.2 hc159
    refine wpc_sl (n := 9) (c' := 16) (pc' := 260) (ls' := [some (.ref 0), none, none, none, some (.int x4)]) (st' := []) (s' := (sI (sI (sI s 0 26 (0 : Int32)) 0 30 (0 : Int32)) 0 31 (0 : Int32))) rfl ?_
    exact wpc_ret rfl rfl (fun _ => rfl) rfl ⟨rfl, h161⟩
theorem l2r0W1_in (N : Nat) (sg : Nat → Int32) (a1 : Int32) (s : St) (Q : Int32 → Wd → Prop) (h : ((a1 < (Int32.ofNat N)) → inb N a1 ∧ Q (sg (ix a1)) (W1 s)) ∧ (¬ (a1 < (Int32.ofNat N)) → Q (0 : Int32) (W1 s))) : lalI PP QQ (some (N, sg)) 2 [.ref 0, .int a1] (W1 s) Q := by
  refine lal_of (me := lm2) (ls := [some (.ref 0), some (.int a1)]) rfl (Nat.le_of_ble_eq_true rfl) rfl ?_
  refine wpl_sl (n := 2) (pc' := 2) (ls' := [some (.ref 0), some (.int a1)]) (st' := [.ref 0, .int a1]) rfl ?_
  refine wpl_len rfl ?_
  refine wpl_icmp (a := 12) (b := 6) rfl (by decide) rfl rfl (wpl_br (p := a1 < (Int32.ofNat N)) ⟨fun hc170 => ?_, fun hc170 => ?_⟩)
  · have h171 := h.1 hc170
    refine wpl_sl (n := 2) (pc' := 8) (ls' := [some (.ref 0), some (.int a1)]) (st' := [.int a1, .ref 0]) rfl ?_
    refine wpl_lda rfl h171.1 ?_
    have h173 := h171.2
    refine wpl_sl (n := 1) (pc' := 13) (ls' := [some (.ref 0), some (.int a1)]) (st' := [.int (sg (ix a1))]) rfl ?_
    exact wpl_ret rfl rfl rfl ⟨(sg (ix a1)), rfl, h173⟩
  · have h172 := h.2 hc170
    refine wpl_sl (n := 1) (pc' := 13) (ls' := [some (.ref 0), some (.int a1)]) (st' := [.int (0 : Int32)]) rfl ?_
    exact wpl_ret rfl rfl rfl ⟨(0 : Int32), rfl, h172⟩
theorem c19_in (a1 : Int32) (s : St) (Q : Int32 → St → Prop) (h : ((a1 < (0 : Int32)) → Q (1 : Int32) s) ∧ (¬ (a1 < (0 : Int32)) → ((a1 < (gI s 0 16)) → Q (0 : Int32) s) ∧ (¬ (a1 < (gI s 0 16)) → Q (1 : Int32) s))) : calI PP 19 16 [.ref 0, .int a1] s Q := by
  refine cal_of (me := cm19) (ls := [some (.ref 0), some (.int a1)]) rfl (Nat.le_of_ble_eq_true rfl) rfl ?_
  refine wpc_sl (n := 1) (c' := 16) (pc' := 1) (ls' := [some (.ref 0), some (.int a1)]) (st' := [.int a1]) (s' := s) rfl ?_
  refine wpc_if (a := 12) (b := 4) rfl (by decide) rfl rfl (wpc_br (p := a1 < (0 : Int32)) ⟨fun hc204 => ?_, fun hc204 => ?_⟩)
  · have h205 := h.1 hc204
    refine wpc_sl (n := 2) (c' := 16) (pc' := 17) (ls' := [some (.ref 0), some (.int a1)]) (st' := [.int (1 : Int32)]) (s' := s) rfl ?_
    exact wpc_ret rfl rfl (fun q => absurd q (by decide)) rfl ⟨(1 : Int32), rfl, h205⟩
  · have h206 := h.2 hc204
    refine wpc_sl (n := 3) (c' := 16) (pc' := 9) (ls' := [some (.ref 0), some (.int a1)]) (st' := [.int (gI s 0 16), .int a1]) (s' := s) rfl ?_
    refine wpc_icmp (a := 16) (b := 12) rfl (by decide) rfl rfl (wpc_br (p := a1 < (gI s 0 16)) ⟨fun hc207 => ?_, fun hc207 => ?_⟩)
    · have h208 := h206.1 hc207
      refine wpc_sl (n := 1) (c' := 16) (pc' := 17) (ls' := [some (.ref 0), some (.int a1)]) (st' := [.int (0 : Int32)]) (s' := s) rfl ?_
      exact wpc_ret rfl rfl (fun q => absurd q (by decide)) rfl ⟨(0 : Int32), rfl, h208⟩
    · have h209 := h206.2 hc207
      refine wpc_sl (n := 2) (c' := 16) (pc' := 17) (ls' := [some (.ref 0), some (.int a1)]) (st' := [.int (1 : Int32)]) (s' := s) rfl ?_
      exact wpc_ret rfl rfl (fun q => absurd q (by decide)) rfl ⟨(1 : Int32), rfl, h209⟩
theorem c20_in (a1 : Int32) (s : St) (Q : Int32 → St → Prop) (h : ((a1 < (0 : Int32)) → Q (1 : Int32) s) ∧ (¬ (a1 < (0 : Int32)) → ((a1 < (gI s 0 14)) → Q (0 : Int32) s) ∧ (¬ (a1 < (gI s 0 14)) → Q (1 : Int32) s))) : calI PP 20 16 [.ref 0, .int a1] s Q := by
  refine cal_of (me := cm20) (ls := [some (.ref 0), some (.int a1)]) rfl (Nat.le_of_ble_eq_true rfl) rfl ?_
  refine wpc_sl (n := 1) (c' := 16) (pc' := 1) (ls' := [some (.ref 0), some (.int a1)]) (st' := [.int a1]) (s' := s) rfl ?_
  refine wpc_if (a := 12) (b := 4) rfl (by decide) rfl rfl (wpc_br (p := a1 < (0 : Int32)) ⟨fun hc210 => ?_, fun hc210 => ?_⟩)
  · have h211 := h.1 hc210
    refine wpc_sl (n := 2) (c' := 16) (pc' := 17) (ls' := [some (.ref 0), some (.int a1)]) (st' := [.int (1 : Int32)]) (s' := s) rfl ?_
    exact wpc_ret rfl rfl (fun q => absurd q (by decide)) rfl ⟨(1 : Int32), rfl, h211⟩
  · have h212 := h.2 hc210
    refine wpc_sl (n := 3) (c' := 16) (pc' := 9) (ls' := [some (.ref 0), some (.int a1)]) (st' := [.int (gI s 0 14), .int a1]) (s' := s) rfl ?_
    refine wpc_icmp (a := 16) (b := 12) rfl (by decide) rfl rfl (wpc_br (p := a1 < (gI s 0 14)) ⟨fun hc213 => ?_, fun hc213 => ?_⟩)
    · have h214 := h212.1 hc213
      refine wpc_sl (n := 1) (c' := 16) (pc' := 17) (ls' := [some (.ref 0), some (.int a1)]) (st' := [.int (0 : Int32)]) (s' := s) rfl ?_
      exact wpc_ret rfl rfl (fun q => absurd q (by decide)) rfl ⟨(0 : Int32), rfl, h214⟩
    · have h215 := h212.2 hc213
      refine wpc_sl (n := 2) (c' := 16) (pc' := 17) (ls' := [some (.ref 0), some (.int a1)]) (st' := [.int (1 : Int32)]) (s' := s) rfl ?_
      exact wpc_ret rfl rfl (fun q => absurd q (by decide)) rfl ⟨(1 : Int32), rfl, h215⟩
theorem c31_in (a1 : Int32) (s : St) (Q : Int32 → St → Prop) (h : wpcI PP 31 cm31 16 2 [some (.ref 0), some (.int a1), some (.int (0 : Int32))] [] s Q) : calI PP 31 16 [.ref 0, .int a1] s Q := by
  refine cal_of (me := cm31) (ls := [some (.ref 0), some (.int a1), none]) rfl (Nat.le_of_ble_eq_true rfl) rfl ?_
  refine wpc_sl (n := 2) (c' := 16) (pc' := 2) (ls' := [some (.ref 0), some (.int a1), some (.int (0 : Int32))]) (st' := []) (s' := s) rfl ?_
  exact h
theorem c31_2 (x1 : Int32) (x2 : Int32) (s : St) (Q : Int32 → St → Prop) (h : ((x2 < (gI s 0 15)) → inb 8 x2 ∧ (((gI s 4 (ix x2)) = x1) → Q x2 s) ∧ (¬ ((gI s 4 (ix x2)) = x1) → wpcI PP 31 cm31 16 2 [some (.ref 0), some (.int x1), some (.int (x2 + (1 : Int32)))] [] s Q)) ∧ (¬ (x2 < (gI s 0 15)) → Q (-1 : Int32) s)) : wpcI PP 31 cm31 16 2 [some (.ref 0), some (.int x1), some (.int x2)] [] s Q := by
  refine wpc_sl (n := 3) (c' := 16) (pc' := 7) (ls' := [some (.ref 0), some (.int x1), some (.int x2)]) (st' := [.int (gI s 0 15), .int x2]) (s' := s) rfl ?_
  refine wpc_icmp (a := 28) (b := 10) rfl (by decide) rfl rfl (wpc_br (p := x2 < (gI s 0 15)) ⟨fun hc255 => ?_, fun hc255 => ?_⟩)
  · have h256 := h.1 hc255
    refine wpc_sl (n := 3) (c' := 16) (pc' := 15) (ls' := [some (.ref 0), some (.int x1), some (.int x2)]) (st' := [.int x2, .ref 4]) (s' := s) rfl ?_
    refine wpc_ldaI (a := 3) (N := 8) (v := (gI s 4 (ix x2))) rfl rfl (by decide) h256.1 rfl ?_
    have h258 := h256.2
    refine wpc_sl (n := 1) (c' := 16) (pc' := 17) (ls' := [some (.ref 0), some (.int x1), some (.int x2)]) (st' := [.int x1, .int (gI s 4 (ix x2))]) (s' := s) rfl ?_
    refine wpc_icmp (a := 22) (b := 20) rfl (by decide) rfl rfl (wpc_br (p := (gI s 4 (ix x2)) = x1) ⟨fun hc259 => ?_, fun hc259 => ?_⟩)
    · have h260 := h258.1 hc259
      refine wpc_sl (n := 1) (c' := 16) (pc' := 21) (ls' := [some (.ref 0), some (.int x1), some (.int x2)]) (st' := [.int x2]) (s' := s) rfl ?_
      exact wpc_ret rfl rfl (fun q => absurd q (by decide)) rfl ⟨x2, rfl, h260⟩
    · have h261 := h258.2 hc259
      refine wpc_sl (n := 2) (c' := 16) (pc' := 2) (ls' := [some (.ref 0), some (.int x1), some (.int (x2 + (1 : Int32)))]) (st' := []) (s' := s) rfl ?_
      exact h261
  · have h257 := h.2 hc255
    refine wpc_sl (n := 1) (c' := 16) (pc' := 29) (ls' := [some (.ref 0), some (.int x1), some (.int x2)]) (st' := [.int (-1 : Int32)]) (s' := s) rfl ?_
    exact wpc_ret rfl rfl (fun q => absurd q (by decide)) rfl ⟨(-1 : Int32), rfl, h257⟩
theorem c34_in  (s : St) (Q : Int32 → St → Prop) (h : wpcI PP 34 cm34 16 4 [some (.ref 0), some (.int (-1 : Int32)), some (.int (0 : Int32))] [] s Q) : calI PP 34 16 [.ref 0] s Q := by
  refine cal_of (me := cm34) (ls := [some (.ref 0), none, none]) rfl (Nat.le_of_ble_eq_true rfl) rfl ?_
  refine wpc_sl (n := 4) (c' := 16) (pc' := 4) (ls' := [some (.ref 0), some (.int (-1 : Int32)), some (.int (0 : Int32))]) (st' := []) (s' := s) rfl ?_
  exact h
theorem c34_4 (x1 : Int32) (x2 : Int32) (s : St) (Q : Int32 → St → Prop) (h : ((x2 < (gI s 0 15)) → inb 8 x2 ∧ (((gI s 7 (ix x2)) = (0 : Int32)) → inb 8 x2 ∧ (((gI s 8 (ix x2)) = (0 : Int32)) → ((x1 < (0 : Int32)) → wpcI PP 34 cm34 16 51 [some (.ref 0), some (.int x2), some (.int x2)] [] s Q) ∧ (¬ (x1 < (0 : Int32)) → inb 8 x2 ∧ inb 8 x1 ∧ ∀ m313, m313 = (if (gI s 9 (ix x2)) < (gI s 9 (ix x1)) then x2 else x1) → (wpcI PP 34 cm34 16 51 [some (.ref 0), some (.int m313), some (.int x2)] [] s Q))) ∧ (¬ ((gI s 8 (ix x2)) = (0 : Int32)) → wpcI PP 34 cm34 16 51 [some (.ref 0), some (.int x1), some (.int x2)] [] s Q)) ∧ (¬ ((gI s 7 (ix x2)) = (0 : Int32)) → wpcI PP 34 cm34 16 51 [some (.ref 0), some (.int x1), some (.int x2)] [] s Q)) ∧ (¬ (x2 < (gI s 0 15)) → Q x1 s)) : wpcI PP 34 cm34 16 4 [some (.ref 0), some (.int x1), some (.int x2)] [] s Q := by
  refine wpc_sl (n := 3) (c' := 16) (pc' := 9) (ls' := [some (.ref 0), some (.int x1), some (.int x2)]) (st' := [.int (gI s 0 15), .int x2]) (s' := s) rfl ?_
  refine wpc_icmp (a := 57) (b := 12) rfl (by decide) rfl rfl (wpc_br (p := x2 < (gI s 0 15)) ⟨fun hc297 => ?_, fun hc297 => ?_⟩)
  · have h298 := h.1 hc297
    refine wpc_sl (n := 3) (c' := 16) (pc' := 17) (ls' := [some (.ref 0), some (.int x1), some (.int x2)]) (st' := [.int x2, .ref 7]) (s' := s) rfl ?_
    refine wpc_ldaZ (a := 6) (N := 8) (v := (gI s 7 (ix x2))) rfl rfl (by decide) h298.1 rfl ?_
    have h300 := h298.2
    refine wpc_if (a := 51) (b := 21) rfl (by decide) rfl rfl (wpc_br (p := (gI s 7 (ix x2)) = (0 : Int32)) ⟨fun hc301 => ?_, fun hc301 => ?_⟩)
    · have h302 := h300.1 hc301
      refine wpc_sl (n := 3) (c' := 16) (pc' := 26) (ls' := [some (.ref 0), some (.int x1), some (.int x2)]) (st' := [.int x2, .ref 8]) (s' := s) rfl ?_
      refine wpc_ldaZ (a := 7) (N := 8) (v := (gI s 8 (ix x2))) rfl rfl (by decide) h302.1 rfl ?_
      have h304 := h302.2
      refine wpc_if (a := 51) (b := 30) rfl (by decide) rfl rfl (wpc_br (p := (gI s 8 (ix x2)) = (0 : Int32)) ⟨fun hc305 => ?_, fun hc305 => ?_⟩)
      · have h306 := h304.1 hc305
        refine wpc_sl (n := 1) (c' := 16) (pc' := 31) (ls' := [some (.ref 0), some (.int x1), some (.int x2)]) (st' := [.int x1]) (s' := s) rfl ?_
        refine wpc_if (a := 49) (b := 34) rfl (by decide) rfl rfl (wpc_br (p := x1 < (0 : Int32)) ⟨fun hc308 => ?_, fun hc308 => ?_⟩)
        · have h309 := h306.1 hc308
          refine wpc_sl (n := 2) (c' := 16) (pc' := 51) (ls' := [some (.ref 0), some (.int x2), some (.int x2)]) (st' := []) (s' := s) rfl ?_
          exact h309
        · have h310 := h306.2 hc308
          refine wpc_sl (n := 3) (c' := 16) (pc' := 39) (ls' := [some (.ref 0), some (.int x1), some (.int x2)]) (st' := [.int x2, .ref 9]) (s' := s) rfl ?_
          refine wpc_ldaI (a := 8) (N := 8) (v := (gI s 9 (ix x2))) rfl rfl (by decide) h310.1 rfl ?_
          have h311 := h310.2
          refine wpc_sl (n := 3) (c' := 16) (pc' := 45) (ls' := [some (.ref 0), some (.int x1), some (.int x2)]) (st' := [.int x1, .ref 9, .int (gI s 9 (ix x2))]) (s' := s) rfl ?_
          refine wpc_ldaI (a := 8) (N := 8) (v := (gI s 9 (ix x1))) rfl rfl (by decide) h311.1 rfl ?_
          have h312 := h311.2
          have hm314 : ∀ m313, m313 = (if (gI s 9 (ix x2)) < (gI s 9 (ix x1)) then x2 else x1) → wpcI PP 34 cm34 16 51 [some (.ref 0), some (.int m313), some (.int x2)] [] s Q := by
            intro m313 em313
            have h315 := h312 m313 em313
            exact h315
          refine wpc_icmp (a := 51) (b := 49) rfl (by decide) rfl rfl (wpc_br (p := (gI s 9 (ix x2)) < (gI s 9 (ix x1))) ⟨fun hc316 => ?_, fun hc316 => ?_⟩)
          · refine wpc_sl (n := 2) (c' := 16) (pc' := 51) (ls' := [some (.ref 0), some (.int x2), some (.int x2)]) (st' := []) (s' := s) rfl ?_
            first | exact hm314 _ (by simp only [if_pos hc316]) | exact wpc_lle (by repeat (first | exact trivial | refine ⟨rfl, ?_⟩)) (hm314 _ (by simp only [if_pos hc316]))
          · first | exact hm314 _ (by simp only [if_neg hc316]) | exact wpc_lle (by repeat (first | exact trivial | refine ⟨rfl, ?_⟩)) (hm314 _ (by simp only [if_neg hc316]))
      · have h307 := h304.2 hc305
        exact h307
    · have h303 := h300.2 hc301
      exact h303
  · have h299 := h.2 hc297
    refine wpc_sl (n := 1) (c' := 16) (pc' := 58) (ls' := [some (.ref 0), some (.int x1), some (.int x2)]) (st' := [.int x1]) (s' := s) rfl ?_
    exact wpc_ret rfl rfl (fun q => absurd q (by decide)) rfl ⟨x1, rfl, h299⟩
theorem c34_51 (x1 : Int32) (x2 : Int32) (s : St) (Q : Int32 → St → Prop) (h : wpcI PP 34 cm34 16 4 [some (.ref 0), some (.int x1), some (.int (x2 + (1 : Int32)))] [] s Q) : wpcI PP 34 cm34 16 51 [some (.ref 0), some (.int x1), some (.int x2)] [] s Q := by
  refine wpc_sl (n := 2) (c' := 16) (pc' := 4) (ls' := [some (.ref 0), some (.int x1), some (.int (x2 + (1 : Int32)))]) (st' := []) (s' := s) rfl ?_
  exact h
theorem c38_in  (s : St) (Q : Int32 → St → Prop) (h : wpcI PP 38 cm38 16 6 [some (.ref 0), some (.int (-1 : Int32)), some (.int (-1 : Int32)), some (.int (0 : Int32)), none] [] s Q) : calI PP 38 16 [.ref 0] s Q := by
  refine cal_of (me := cm38) (ls := [some (.ref 0), none, none, none, none]) rfl (Nat.le_of_ble_eq_true rfl) rfl ?_
  refine wpc_sl (n := 6) (c' := 16) (pc' := 6) (ls' := [some (.ref 0), some (.int (-1 : Int32)), some (.int (-1 : Int32)), some (.int (0 : Int32)), none]) (st' := []) (s' := s) rfl ?_
  exact h
theorem c38_6 (x1 : Int32) (x2 : Int32) (x3 : Int32) (s : St) (Q : Int32 → St → Prop) (h : ((x3 < (gI s 0 30)) → inb 16 x3 ∧ (((gI s 11 (ix x3)) < (gI s 0 31)) → wpcI PP 38 cm38 16 48 [some (.ref 0), some (.int x1), some (.int x2), some (.int x3), some (.int (gI s 11 (ix x3)))] [] s Q) ∧ (¬ ((gI s 11 (ix x3)) < (gI s 0 31)) → ((x1 < (0 : Int32)) → wpcI PP 38 cm38 16 48 [some (.ref 0), some (.int x3), some (.int x2), some (.int x3), some (.int (gI s 11 (ix x3)))] [] s Q) ∧ (¬ (x1 < (0 : Int32)) → inb 16 x1 ∧ ∀ m359, m359 = (if (gI s 11 (ix x3)) < (gI s 11 (ix x1)) then x3 else x1) → (wpcI PP 38 cm38 16 48 [some (.ref 0), some (.int m359), some (.int x2), some (.int x3), some (.int (gI s 11 (ix x3)))] [] s Q)))) ∧ (¬ (x3 < (gI s 0 30)) → ((x1 < (0 : Int32)) → Q x2 s) ∧ (¬ (x1 < (0 : Int32)) → Q x1 s))) : wpcI PP 38 cm38 16 6 [some (.ref 0), some (.int x1), some (.int x2), some (.int x3), none] [] s Q := by
  refine wpc_sl (n := 3) (c' := 16) (pc' := 11) (ls' := [some (.ref 0), some (.int x1), some (.int x2), some (.int x3), none]) (st' := [.int (gI s 0 30), .int x3]) (s' := s) rfl ?_
  refine wpc_icmp (a := 71) (b := 14) rfl (by decide) rfl rfl (wpc_br (p := x3 < (gI s 0 30)) ⟨fun hc348 => ?_, fun hc348 => ?_⟩)
  · have h349 := h.1 hc348
    refine wpc_sl (n := 3) (c' := 16) (pc' := 19) (ls' := [some (.ref 0), some (.int x1), some (.int x2), some (.int x3), none]) (st' := [.int x3, .ref 11]) (s' := s) rfl ?_
    refine wpc_ldaI (a := 10) (N := 16) (v := (gI s 11 (ix x3))) rfl rfl (by decide) h349.1 rfl ?_
    have h351 := h349.2
    refine wpc_sl (n := 4) (c' := 16) (pc' := 28) (ls' := [some (.ref 0), some (.int x1), some (.int x2), some (.int x3), some (.int (gI s 11 (ix x3)))]) (st' := [.int (gI s 0 31), .int (gI s 11 (ix x3))]) (s' := s) rfl ?_
    refine wpc_icmp (a := 48) (b := 31) rfl (by decide) rfl rfl (wpc_br (p := (gI s 11 (ix x3)) < (gI s 0 31)) ⟨fun hc352 => ?_, fun hc352 => ?_⟩)
    · have h353 := h351.1 hc352
      exact h353
    · have h354 := h351.2 hc352
      refine wpc_sl (n := 1) (c' := 16) (pc' := 32) (ls' := [some (.ref 0), some (.int x1), some (.int x2), some (.int x3), some (.int (gI s 11 (ix x3)))]) (st' := [.int x1]) (s' := s) rfl ?_
      refine wpc_if (a := 46) (b := 35) rfl (by decide) rfl rfl (wpc_br (p := x1 < (0 : Int32)) ⟨fun hc355 => ?_, fun hc355 => ?_⟩)
      · have h356 := h354.1 hc355
        refine wpc_sl (n := 2) (c' := 16) (pc' := 48) (ls' := [some (.ref 0), some (.int x3), some (.int x2), some (.int x3), some (.int (gI s 11 (ix x3)))]) (st' := []) (s' := s) rfl ?_
        exact h356
      · have h357 := h354.2 hc355
        refine wpc_sl (n := 4) (c' := 16) (pc' := 42) (ls' := [some (.ref 0), some (.int x1), some (.int x2), some (.int x3), some (.int (gI s 11 (ix x3)))]) (st' := [.int x1, .ref 11, .int (gI s 11 (ix x3))]) (s' := s) rfl ?_
        refine wpc_ldaI (a := 10) (N := 16) (v := (gI s 11 (ix x1))) rfl rfl (by decide) h357.1 rfl ?_
        have h358 := h357.2
        have hm360 : ∀ m359, m359 = (if (gI s 11 (ix x3)) < (gI s 11 (ix x1)) then x3 else x1) → wpcI PP 38 cm38 16 48 [some (.ref 0), some (.int m359), some (.int x2), some (.int x3), some (.int (gI s 11 (ix x3)))] [] s Q := by
          intro m359 em359
          have h361 := h358 m359 em359
          exact h361
        refine wpc_icmp (a := 48) (b := 46) rfl (by decide) rfl rfl (wpc_br (p := (gI s 11 (ix x3)) < (gI s 11 (ix x1))) ⟨fun hc362 => ?_, fun hc362 => ?_⟩)
        · refine wpc_sl (n := 2) (c' := 16) (pc' := 48) (ls' := [some (.ref 0), some (.int x3), some (.int x2), some (.int x3), some (.int (gI s 11 (ix x3)))]) (st' := []) (s' := s) rfl ?_
          first | exact hm360 _ (by simp only [if_pos hc362]) | exact wpc_lle (by repeat (first | exact trivial | refine ⟨rfl, ?_⟩)) (hm360 _ (by simp only [if_pos hc362]))
        · first | exact hm360 _ (by simp only [if_neg hc362]) | exact wpc_lle (by repeat (first | exact trivial | refine ⟨rfl, ?_⟩)) (hm360 _ (by simp only [if_neg hc362]))
  · have h350 := h.2 hc348
    refine wpc_sl (n := 1) (c' := 16) (pc' := 72) (ls' := [some (.ref 0), some (.int x1), some (.int x2), some (.int x3), none]) (st' := [.int x1]) (s' := s) rfl ?_
    refine wpc_if (a := 77) (b := 75) rfl (by decide) rfl rfl (wpc_br (p := x1 < (0 : Int32)) ⟨fun hc363 => ?_, fun hc363 => ?_⟩)
    · have h364 := h350.1 hc363
      refine wpc_sl (n := 1) (c' := 16) (pc' := 78) (ls' := [some (.ref 0), some (.int x1), some (.int x2), some (.int x3), none]) (st' := [.int x2]) (s' := s) rfl ?_
      exact wpc_ret rfl rfl (fun q => absurd q (by decide)) rfl ⟨x2, rfl, h364⟩
    · have h365 := h350.2 hc363
      refine wpc_sl (n := 1) (c' := 16) (pc' := 76) (ls' := [some (.ref 0), some (.int x1), some (.int x2), some (.int x3), none]) (st' := [.int x1]) (s' := s) rfl ?_
      exact wpc_ret rfl rfl (fun q => absurd q (by decide)) rfl ⟨x1, rfl, h365⟩
theorem c38_48 (x1 : Int32) (x2 : Int32) (x3 : Int32) (x4 : Int32) (s : St) (Q : Int32 → St → Prop) (h : ((x2 < (0 : Int32)) → wpcI PP 38 cm38 16 6 [some (.ref 0), some (.int x1), some (.int x3), some (.int (x3 + (1 : Int32))), none] [] s Q) ∧ (¬ (x2 < (0 : Int32)) → inb 16 x2 ∧ ∀ m370, m370 = (if x4 < (gI s 11 (ix x2)) then x3 else x2) → (wpcI PP 38 cm38 16 6 [some (.ref 0), some (.int x1), some (.int m370), some (.int (x3 + (1 : Int32))), none] [] s Q))) : wpcI PP 38 cm38 16 48 [some (.ref 0), some (.int x1), some (.int x2), some (.int x3), some (.int x4)] [] s Q := by
  refine wpc_sl (n := 1) (c' := 16) (pc' := 49) (ls' := [some (.ref 0), some (.int x1), some (.int x2), some (.int x3), some (.int x4)]) (st' := [.int x2]) (s' := s) rfl ?_
  refine wpc_if (a := 63) (b := 52) rfl (by decide) rfl rfl (wpc_br (p := x2 < (0 : Int32)) ⟨fun hc366 => ?_, fun hc366 => ?_⟩)
  · have h367 := h.1 hc366
    refine wpc_sl (n := 4) (c' := 16) (pc' := 6) (ls' := [some (.ref 0), some (.int x1), some (.int x3), some (.int (x3 + (1 : Int32))), some (.int x4)]) (st' := []) (s' := s) rfl ?_
    exact wpc_lle (ls := [some (.ref 0), some (.int x1), some (.int x3), some (.int (x3 + (1 : Int32))), none]) ⟨rfl, rfl, rfl, rfl, trivial⟩ h367
  · have h368 := h.2 hc366
    refine wpc_sl (n := 4) (c' := 16) (pc' := 59) (ls' := [some (.ref 0), some (.int x1), some (.int x2), some (.int x3), some (.int x4)]) (st' := [.int x2, .ref 11, .int x4]) (s' := s) rfl ?_
    refine wpc_ldaI (a := 10) (N := 16) (v := (gI s 11 (ix x2))) rfl rfl (by decide) h368.1 rfl ?_
    have h369 := h368.2
    have hm371 : ∀ m370, m370 = (if x4 < (gI s 11 (ix x2)) then x3 else x2) → wpcI PP 38 cm38 16 65 [some (.ref 0), some (.int x1), some (.int m370), some (.int x3), some (.int x4)] [] s Q := by
      intro m370 em370
      have h372 := h369 m370 em370
      refine wpc_sl (n := 2) (c' := 16) (pc' := 6) (ls' := [some (.ref 0), some (.int x1), some (.int m370), some (.int (x3 + (1 : Int32))), some (.int x4)]) (st' := []) (s' := s) rfl ?_
      exact wpc_lle (ls := [some (.ref 0), some (.int x1), some (.int m370), some (.int (x3 + (1 : Int32))), none]) ⟨rfl, rfl, rfl, rfl, trivial⟩ h372
    refine wpc_icmp (a := 65) (b := 63) rfl (by decide) rfl rfl (wpc_br (p := x4 < (gI s 11 (ix x2))) ⟨fun hc373 => ?_, fun hc373 => ?_⟩)
    · refine wpc_sl (n := 2) (c' := 16) (pc' := 65) (ls' := [some (.ref 0), some (.int x1), some (.int x3), some (.int x3), some (.int x4)]) (st' := []) (s' := s) rfl ?_
      first | exact hm371 _ (by simp only [if_pos hc373]) | exact wpc_lle (by repeat (first | exact trivial | refine ⟨rfl, ?_⟩)) (hm371 _ (by simp only [if_pos hc373]))
    · first | exact hm371 _ (by simp only [if_neg hc373]) | exact wpc_lle (by repeat (first | exact trivial | refine ⟨rfl, ?_⟩)) (hm371 _ (by simp only [if_neg hc373]))
theorem c39_in (a1 : Int32) (s : St) (Q : St → Prop) (h : wpcV PP 39 cm39 16 2 [some (.ref 0), none, some (.int a1)] [] s Q) : calV PP 39 16 [.ref 0, .int a1] s Q := by
  refine cal_of (me := cm39) (ls := [some (.ref 0), some (.int a1), none]) rfl (Nat.le_of_ble_eq_true rfl) rfl ?_
  refine wpc_sl (n := 2) (c' := 16) (pc' := 2) (ls' := [some (.ref 0), some (.int a1), some (.int a1)]) (st' := []) (s' := s) rfl ?_
  exact wpc_lle (ls := [some (.ref 0), none, some (.int a1)]) ⟨rfl, rfl, trivial⟩ h
theorem c39_2 (x2 : Int32) (s : St) (Q : St → Prop) (h : (((x2 + (1 : Int32)) < (gI s 0 30)) → inb 16 (x2 + (1 : Int32)) ∧ inb 16 x2 ∧ inb 16 (x2 + (1 : Int32)) ∧ inb 16 x2 ∧ inb 16 (x2 + (1 : Int32)) ∧ inb 16 x2 ∧ wpcV PP 39 cm39 16 2 [some (.ref 0), none, some (.int (x2 + (1 : Int32)))] [] (sI (sI (sI s 10 (ix x2) (gI s 10 (ix (x2 + (1 : Int32))))) 11 (ix x2) (gI s 11 (ix (x2 + (1 : Int32))))) 12 (ix x2) ((gI s 12 (ix (x2 + (1 : Int32)))) &&& 1)) Q) ∧ (¬ ((x2 + (1 : Int32)) < (gI s 0 30)) → Q (sI s 0 30 ((gI s 0 30) - (1 : Int32))))) : wpcV PP 39 cm39 16 2 [some (.ref 0), none, some (.int x2)] [] s Q := by
  refine wpc_sl (n := 5) (c' := 16) (pc' := 9) (ls' := [some (.ref 0), none, some (.int x2)]) (st' := [.int (gI s 0 30), .int (x2 + (1 : Int32))]) (s' := s) rfl ?_
  refine wpc_icmp (a := 60) (b := 12) rfl (by decide) rfl rfl (wpc_br (p := (x2 + (1 : Int32)) < (gI s 0 30)) ⟨fun hc374 => ?_, fun hc374 => ?_⟩)
  · have h375 := h.1 hc374
    refine wpc_sl (n := 8) (c' := 16) (pc' := 24) (ls' := [some (.ref 0), none, some (.int x2)]) (st' := [.int (x2 + (1 : Int32)), .ref 10, .int x2, .ref 10]) (s' := s) rfl ?_
    refine wpc_ldaI (a := 9) (N := 16) (v := (gI s 10 (ix (x2 + (1 : Int32))))) rfl rfl (by decide) h375.1 rfl ?_
    have h377 := h375.2
    refine wpc_staI (a := 9) (N := 16) (s' := (sI s 10 (ix x2) (gI s 10 (ix (x2 + (1 : Int32)))))) rfl rfl (by decide) h377.1 rfl ?_
    have h378 := h377.2
    refine wpc_sl (n := 8) (c' := 16) (pc' := 38) (ls' := [some (.ref 0), none, some (.int x2)]) (st' := [.int (x2 + (1 : Int32)), .ref 11, .int x2, .ref 11]) (s' := (sI s 10 (ix x2) (gI s 10 (ix (x2 + (1 : Int32)))))) rfl ?_
    refine wpc_ldaI (a := 10) (N := 16) (v := (gI s 11 (ix (x2 + (1 : Int32))))) rfl rfl (by decide) h378.1 rfl ?_
    have h379 := h378.2
    refine wpc_staI (a := 10) (N := 16) (s' := (sI (sI s 10 (ix x2) (gI s 10 (ix (x2 + (1 : Int32))))) 11 (ix x2) (gI s 11 (ix (x2 + (1 : Int32)))))) rfl rfl (by decide) h379.1 rfl ?_
    have h380 := h379.2
    refine wpc_sl (n := 8) (c' := 16) (pc' := 52) (ls' := [some (.ref 0), none, some (.int x2)]) (st' := [.int (x2 + (1 : Int32)), .ref 12, .int x2, .ref 12]) (s' := (sI (sI s 10 (ix x2) (gI s 10 (ix (x2 + (1 : Int32))))) 11 (ix x2) (gI s 11 (ix (x2 + (1 : Int32)))))) rfl ?_
    refine wpc_ldaZ (a := 11) (N := 16) (v := (gI s 12 (ix (x2 + (1 : Int32))))) rfl rfl (by decide) h380.1 rfl ?_
    have h381 := h380.2
    refine wpc_staZ (a := 11) (N := 16) (s' := (sI (sI (sI s 10 (ix x2) (gI s 10 (ix (x2 + (1 : Int32))))) 11 (ix x2) (gI s 11 (ix (x2 + (1 : Int32))))) 12 (ix x2) ((gI s 12 (ix (x2 + (1 : Int32)))) &&& 1))) rfl rfl (by decide) h381.1 rfl ?_
    have h382 := h381.2
    refine wpc_sl (n := 2) (c' := 16) (pc' := 2) (ls' := [some (.ref 0), none, some (.int (x2 + (1 : Int32)))]) (st' := []) (s' := (sI (sI (sI s 10 (ix x2) (gI s 10 (ix (x2 + (1 : Int32))))) 11 (ix x2) (gI s 11 (ix (x2 + (1 : Int32))))) 12 (ix x2) ((gI s 12 (ix (x2 + (1 : Int32)))) &&& 1))) rfl ?_
    exact h382
  · have h376 := h.2 hc374
    refine wpc_sl (n := 6) (c' := 16) (pc' := 70) (ls' := [some (.ref 0), none, some (.int x2)]) (st' := []) (s' := (sI s 0 30 ((gI s 0 30) - (1 : Int32)))) rfl ?_
    exact wpc_ret rfl rfl (fun q => absurd q (by decide)) rfl ⟨rfl, h376⟩
theorem c22_in (a1 : Int32) (s : St) (Q : Int32 → St → Prop) (h : ((a1 < (0 : Int32)) → Q (0 : Int32) s) ∧ (¬ (a1 < (0 : Int32)) → ((a1 < (gI s 0 15)) → Q (1 : Int32) s) ∧ (¬ (a1 < (gI s 0 15)) → Q (0 : Int32) s))) : calI PP 22 16 [.ref 0, .int a1] s Q := by
  refine cal_of (me := cm22) (ls := [some (.ref 0), some (.int a1)]) rfl (Nat.le_of_ble_eq_true rfl) rfl ?_
  refine wpc_sl (n := 1) (c' := 16) (pc' := 1) (ls' := [some (.ref 0), some (.int a1)]) (st' := [.int a1]) (s' := s) rfl ?_
  refine wpc_if (a := 16) (b := 4) rfl (by decide) rfl rfl (wpc_br (p := a1 < (0 : Int32)) ⟨fun hc383 => ?_, fun hc383 => ?_⟩)
  · have h384 := h.1 hc383
    refine wpc_sl (n := 1) (c' := 16) (pc' := 17) (ls' := [some (.ref 0), some (.int a1)]) (st' := [.int (0 : Int32)]) (s' := s) rfl ?_
    exact wpc_ret rfl rfl (fun q => absurd q (by decide)) rfl ⟨(0 : Int32), rfl, h384⟩
  · have h385 := h.2 hc383
    refine wpc_sl (n := 3) (c' := 16) (pc' := 9) (ls' := [some (.ref 0), some (.int a1)]) (st' := [.int (gI s 0 15), .int a1]) (s' := s) rfl ?_
    refine wpc_icmp (a := 16) (b := 12) rfl (by decide) rfl rfl (wpc_br (p := a1 < (gI s 0 15)) ⟨fun hc386 => ?_, fun hc386 => ?_⟩)
    · have h387 := h385.1 hc386
      refine wpc_sl (n := 2) (c' := 16) (pc' := 17) (ls' := [some (.ref 0), some (.int a1)]) (st' := [.int (1 : Int32)]) (s' := s) rfl ?_
      exact wpc_ret rfl rfl (fun q => absurd q (by decide)) rfl ⟨(1 : Int32), rfl, h387⟩
    · have h388 := h385.2 hc386
      refine wpc_sl (n := 1) (c' := 16) (pc' := 17) (ls' := [some (.ref 0), some (.int a1)]) (st' := [.int (0 : Int32)]) (s' := s) rfl ?_
      exact wpc_ret rfl rfl (fun q => absurd q (by decide)) rfl ⟨(0 : Int32), rfl, h388⟩
theorem c41_in (a1 : Int32) (a2 : Int32) (a3 : Int32) (s : St) (Q : St → Prop) (h : ((a3 = (0 : Int32)) → wpcV PP 41 cm41 16 62 [some (.ref 0), some (.int a1), none, none, some (.int (a1 * (4 : Int32))), some (.int (a2 * (4 : Int32))), some (.int (0 : Int32))] [] s Q) ∧ (¬ (a3 = (0 : Int32)) → wpcV PP 41 cm41 16 17 [some (.ref 0), some (.int a1), none, none, some (.int (a1 * (4 : Int32))), some (.int (a2 * (4 : Int32))), some (.int (0 : Int32))] [] s Q)) : calV PP 41 16 [.ref 0, .int a1, .int a2, .int a3] s Q := by
  refine cal_of (me := cm41) (ls := [some (.ref 0), some (.int a1), some (.int a2), some (.int a3), none, none, none]) rfl (Nat.le_of_ble_eq_true rfl) rfl ?_
  refine wpc_sl (n := 9) (c' := 16) (pc' := 11) (ls' := [some (.ref 0), some (.int a1), some (.int a2), some (.int a3), some (.int (a1 * (4 : Int32))), some (.int (a2 * (4 : Int32))), none]) (st' := [.int a3]) (s' := s) rfl ?_
  refine wpc_if (a := 59) (b := 14) rfl (by decide) rfl rfl (wpc_br (p := a3 = (0 : Int32)) ⟨fun hc389 => ?_, fun hc389 => ?_⟩)
  · have h390 := h.1 hc389
    refine wpc_sl (n := 2) (c' := 16) (pc' := 62) (ls' := [some (.ref 0), some (.int a1), some (.int a2), some (.int a3), some (.int (a1 * (4 : Int32))), some (.int (a2 * (4 : Int32))), some (.int (0 : Int32))]) (st' := []) (s' := s) rfl ?_
    exact wpc_lle (ls := [some (.ref 0), some (.int a1), none, none, some (.int (a1 * (4 : Int32))), some (.int (a2 * (4 : Int32))), some (.int (0 : Int32))]) ⟨rfl, rfl, rfl, rfl, rfl, trivial⟩ h390
  · have h391 := h.2 hc389
    refine wpc_sl (n := 2) (c' := 16) (pc' := 17) (ls' := [some (.ref 0), some (.int a1), some (.int a2), some (.int a3), some (.int (a1 * (4 : Int32))), some (.int (a2 * (4 : Int32))), some (.int (0 : Int32))]) (st' := []) (s' := s) rfl ?_
    exact wpc_lle (ls := [some (.ref 0), some (.int a1), none, none, some (.int (a1 * (4 : Int32))), some (.int (a2 * (4 : Int32))), some (.int (0 : Int32))]) ⟨rfl, rfl, rfl, rfl, rfl, trivial⟩ h391
theorem c41_62 (x1 : Int32) (x4 : Int32) (x5 : Int32) (x6 : Int32) (s : St) (Q : St → Prop) (h : ((x6 < (4 : Int32)) → inb 128 (x5 + x6) ∧ inb 32 (x4 + x6) ∧ wpcV PP 41 cm41 16 62 [some (.ref 0), some (.int x1), none, none, some (.int x4), some (.int x5), some (.int (x6 + (1 : Int32)))] [] (sI s 3 (ix (x4 + x6)) (gI s 1 (ix (x5 + x6)))) Q) ∧ (¬ (x6 < (4 : Int32)) → inb 8 x1 ∧ inb 8 x1 ∧ Q (sI (sI s 5 (ix x1) (1 : Int32)) 6 (ix x1) (0 : Int32)))) : wpcV PP 41 cm41 16 62 [some (.ref 0), some (.int x1), none, none, some (.int x4), some (.int x5), some (.int x6)] [] s Q := by
  refine wpc_sl (n := 2) (c' := 16) (pc' := 65) (ls' := [some (.ref 0), some (.int x1), none, none, some (.int x4), some (.int x5), some (.int x6)]) (st' := [.int (4 : Int32), .int x6]) (s' := s) rfl ?_
  refine wpc_icmp (a := 94) (b := 68) rfl (by decide) rfl rfl (wpc_br (p := x6 < (4 : Int32)) ⟨fun hc392 => ?_, fun hc392 => ?_⟩)
  · have h393 := h.1 hc392
    refine wpc_sl (n := 10) (c' := 16) (pc' := 86) (ls' := [some (.ref 0), some (.int x1), none, none, some (.int x4), some (.int x5), some (.int x6)]) (st' := [.int (x5 + x6), .ref 1, .int (x4 + x6), .ref 3]) (s' := s) rfl ?_
    refine wpc_ldaI (a := 0) (N := 128) (v := (gI s 1 (ix (x5 + x6)))) rfl rfl (by decide) h393.1 rfl ?_
    have h395 := h393.2
    refine wpc_staI (a := 2) (N := 32) (s' := (sI s 3 (ix (x4 + x6)) (gI s 1 (ix (x5 + x6))))) rfl rfl (by decide) h395.1 rfl ?_
    have h396 := h395.2
    refine wpc_sl (n := 2) (c' := 16) (pc' := 62) (ls' := [some (.ref 0), some (.int x1), none, none, some (.int x4), some (.int x5), some (.int (x6 + (1 : Int32)))]) (st' := []) (s' := (sI s 3 (ix (x4 + x6)) (gI s 1 (ix (x5 + x6))))) rfl ?_
    exact h396
  · have h394 := h.2 hc392
    refine wpc_sl (n := 4) (c' := 16) (pc' := 100) (ls' := [some (.ref 0), some (.int x1), none, none, some (.int x4), some (.int x5), some (.int x6)]) (st' := [.int (1 : Int32), .int x1, .ref 5]) (s' := s) rfl ?_
    refine wpc_staZ (a := 4) (N := 8) (s' := (sI s 5 (ix x1) (1 : Int32))) rfl rfl (by decide) h394.1 rfl ?_
    have h397 := h394.2
    refine wpc_sl (n := 4) (c' := 16) (pc' := 107) (ls' := [some (.ref 0), some (.int x1), none, none, some (.int x4), some (.int x5), some (.int x6)]) (st' := [.int (0 : Int32), .int x1, .ref 6]) (s' := (sI s 5 (ix x1) (1 : Int32))) rfl ?_
    refine wpc_staZ (a := 5) (N := 8) (s' := (sI (sI s 5 (ix x1) (1 : Int32)) 6 (ix x1) (0 : Int32))) rfl rfl (by decide) h397.1 rfl ?_
    have h398 := h397.2
    exact wpc_ret rfl rfl (fun q => absurd q (by decide)) rfl ⟨rfl, h398⟩
theorem c41_17 (x1 : Int32) (x4 : Int32) (x5 : Int32) (x6 : Int32) (s : St) (Q : St → Prop) (h : ((x6 < (4 : Int32)) → inb 32 (x4 + x6) ∧ inb 128 (x5 + x6) ∧ wpcV PP 41 cm41 16 17 [some (.ref 0), some (.int x1), none, none, some (.int x4), some (.int x5), some (.int (x6 + (1 : Int32)))] [] (sI s 1 (ix (x5 + x6)) (gI s 3 (ix (x4 + x6)))) Q) ∧ (¬ (x6 < (4 : Int32)) → inb 8 x1 ∧ Q (sI s 6 (ix x1) (0 : Int32)))) : wpcV PP 41 cm41 16 17 [some (.ref 0), some (.int x1), none, none, some (.int x4), some (.int x5), some (.int x6)] [] s Q := by
  refine wpc_sl (n := 2) (c' := 16) (pc' := 20) (ls' := [some (.ref 0), some (.int x1), none, none, some (.int x4), some (.int x5), some (.int x6)]) (st' := [.int (4 : Int32), .int x6]) (s' := s) rfl ?_
  refine wpc_icmp (a := 49) (b := 23) rfl (by decide) rfl rfl (wpc_br (p := x6 < (4 : Int32)) ⟨fun hc399 => ?_, fun hc399 => ?_⟩)
  · have h400 := h.1 hc399
    refine wpc_sl (n := 10) (c' := 16) (pc' := 41) (ls' := [some (.ref 0), some (.int x1), none, none, some (.int x4), some (.int x5), some (.int x6)]) (st' := [.int (x4 + x6), .ref 3, .int (x5 + x6), .ref 1]) (s' := s) rfl ?_
    refine wpc_ldaI (a := 2) (N := 32) (v := (gI s 3 (ix (x4 + x6)))) rfl rfl (by decide) h400.1 rfl ?_
    have h402 := h400.2
    refine wpc_staI (a := 0) (N := 128) (s' := (sI s 1 (ix (x5 + x6)) (gI s 3 (ix (x4 + x6))))) rfl rfl (by decide) h402.1 rfl ?_
    have h403 := h402.2
    refine wpc_sl (n := 2) (c' := 16) (pc' := 17) (ls' := [some (.ref 0), some (.int x1), none, none, some (.int x4), some (.int x5), some (.int (x6 + (1 : Int32)))]) (st' := []) (s' := (sI s 1 (ix (x5 + x6)) (gI s 3 (ix (x4 + x6))))) rfl ?_
    exact h403
  · have h401 := h.2 hc399
    refine wpc_sl (n := 4) (c' := 16) (pc' := 55) (ls' := [some (.ref 0), some (.int x1), none, none, some (.int x4), some (.int x5), some (.int x6)]) (st' := [.int (0 : Int32), .int x1, .ref 6]) (s' := s) rfl ?_
    refine wpc_staZ (a := 5) (N := 8) (s' := (sI s 6 (ix x1) (0 : Int32))) rfl rfl (by decide) h401.1 rfl ?_
    have h404 := h401.2
    refine wpc_sl (n := 1) (c' := 16) (pc' := 108) (ls' := [some (.ref 0), some (.int x1), none, none, some (.int x4), some (.int x5), some (.int x6)]) (st' := []) (s' := (sI s 6 (ix x1) (0 : Int32))) rfl ?_
    exact wpc_ret rfl rfl (fun q => absurd q (by decide)) rfl ⟨rfl, h404⟩
theorem c42_in (a1 : Int32) (s : St) (Q : St → Prop) (h : wpcV PP 42 cm42 16 2 [some (.ref 0), some (.int a1), some (.int (0 : Int32))] [] s Q) : calV PP 42 16 [.ref 0, .int a1] s Q := by
  refine cal_of (me := cm42) (ls := [some (.ref 0), some (.int a1), none]) rfl (Nat.le_of_ble_eq_true rfl) rfl ?_
  refine wpc_sl (n := 2) (c' := 16) (pc' := 2) (ls' := [some (.ref 0), some (.int a1), some (.int (0 : Int32))]) (st' := []) (s' := s) rfl ?_
  exact h
theorem c42_2 (x1 : Int32) (x2 : Int32) (s : St) (Q : St → Prop) (h : ((x2 < (gI s 0 16)) → inb 4 x2 ∧ (((gI s 16 (ix x2)) = x1) → inb 4 x2 ∧ wpcV PP 42 cm42 16 27 [some (.ref 0), some (.int x1), some (.int x2)] [] (sI s 16 (ix x2) (-1 : Int32)) Q) ∧ (¬ ((gI s 16 (ix x2)) = x1) → wpcV PP 42 cm42 16 27 [some (.ref 0), some (.int x1), some (.int x2)] [] s Q)) ∧ (¬ (x2 < (gI s 0 16)) → Q s)) : wpcV PP 42 cm42 16 2 [some (.ref 0), some (.int x1), some (.int x2)] [] s Q := by
  refine wpc_sl (n := 3) (c' := 16) (pc' := 7) (ls' := [some (.ref 0), some (.int x1), some (.int x2)]) (st' := [.int (gI s 0 16), .int x2]) (s' := s) rfl ?_
  refine wpc_icmp (a := 33) (b := 10) rfl (by decide) rfl rfl (wpc_br (p := x2 < (gI s 0 16)) ⟨fun hc405 => ?_, fun hc405 => ?_⟩)
  · have h406 := h.1 hc405
    refine wpc_sl (n := 3) (c' := 16) (pc' := 15) (ls' := [some (.ref 0), some (.int x1), some (.int x2)]) (st' := [.int x2, .ref 16]) (s' := s) rfl ?_
    refine wpc_ldaI (a := 15) (N := 4) (v := (gI s 16 (ix x2))) rfl rfl (by decide) h406.1 rfl ?_
    have h408 := h406.2
    refine wpc_sl (n := 1) (c' := 16) (pc' := 17) (ls' := [some (.ref 0), some (.int x1), some (.int x2)]) (st' := [.int x1, .int (gI s 16 (ix x2))]) (s' := s) rfl ?_
    refine wpc_icmp (a := 27) (b := 20) rfl (by decide) rfl rfl (wpc_br (p := (gI s 16 (ix x2)) = x1) ⟨fun hc409 => ?_, fun hc409 => ?_⟩)
    · have h410 := h408.1 hc409
      refine wpc_sl (n := 4) (c' := 16) (pc' := 26) (ls' := [some (.ref 0), some (.int x1), some (.int x2)]) (st' := [.int (-1 : Int32), .int x2, .ref 16]) (s' := s) rfl ?_
      refine wpc_staI (a := 15) (N := 4) (s' := (sI s 16 (ix x2) (-1 : Int32))) rfl rfl (by decide) h410.1 rfl ?_
      have h412 := h410.2
      exact h412
    · have h411 := h408.2 hc409
      exact h411
  · have h407 := h.2 hc405
    exact wpc_ret rfl rfl (fun q => absurd q (by decide)) rfl ⟨rfl, h407⟩
theorem c42_27 (x1 : Int32) (x2 : Int32) (s : St) (Q : St → Prop) (h : wpcV PP 42 cm42 16 2 [some (.ref 0), some (.int x1), some (.int (x2 + (1 : Int32)))] [] s Q) : wpcV PP 42 cm42 16 27 [some (.ref 0), some (.int x1), some (.int x2)] [] s Q := by
  refine wpc_sl (n := 2) (c' := 16) (pc' := 2) (ls' := [some (.ref 0), some (.int x1), some (.int (x2 + (1 : Int32)))]) (st' := []) (s' := s) rfl ?_
  exact h
theorem c40_in  (s : St) (Q : Int32 → St → Prop) (h : calI PP 38 16 [.ref 0] s (fun v318 s317 => ((v318 < (0 : Int32)) → Q (0 : Int32) s317) ∧ (¬ (v318 < (0 : Int32)) → inb 16 v318 ∧ inb 16 v318 ∧ inb 16 v318 ∧ calV PP 39 16 [.ref 0, .int v318] s317 (fun s326 => calI PP 22 16 [.ref 0, .int (gI s317 10 (ix v318))] s326 (fun v330 s329 => ((v330 = (0 : Int32)) → Q (1 : Int32) s329) ∧ (¬ (v330 = (0 : Int32)) → (((gI s317 11 (ix v318)) < (0 : Int32)) → Q (1 : Int32) s329) ∧ (¬ ((gI s317 11 (ix v318)) < (0 : Int32)) → (((gI s317 11 (ix v318)) < (32 : Int32)) → calV PP 41 16 [.ref 0, .int (gI s317 10 (ix v318)), .int (gI s317 11 (ix v318)), .int (gI s317 12 (ix v318))] s329 (fun s341 => inb 8 (gI s317 10 (ix v318)) ∧ calV PP 42 16 [.ref 0, .int (gI s317 10 (ix v318))] (sI (sI s341 0 31 (gI s317 11 (ix v318))) 7 (ix (gI s317 10 (ix v318))) (0 : Int32)) (fun s345 => Q (1 : Int32) s345))) ∧ (¬ ((gI s317 11 (ix v318)) < (32 : Int32)) → Q (1 : Int32) s329)))))))) : calI PP 40 16 [.ref 0] s Q := by
  refine cal_of (me := cm40) (ls := [some (.ref 0), none, none, none, none]) rfl (Nat.le_of_ble_eq_true rfl) rfl ?_
  refine wpc_sl (n := 1) (c' := 16) (pc' := 1) (ls' := [some (.ref 0), none, none, none, none]) (st' := [.ref 0]) (s' := s) rfl ?_
  refine wpc_callI (m' := 38) (me' := cm38) (as := []) (r := []) rfl rfl rfl rfl rfl ⟨by decide, (by first | decide | exact Nat.le_of_ble_eq_true rfl), (by first | decide | exact Nat.le_of_ble_eq_true rfl), rfl⟩ (calI.mono h fun v318 s317 h319 => ?_)
  refine wpc_sl (n := 2) (c' := 16) (pc' := 6) (ls' := [some (.ref 0), some (.int v318), none, none, none]) (st' := [.int v318]) (s' := s317) rfl ?_
  refine wpc_if (a := 11) (b := 9) rfl (by decide) rfl rfl (wpc_br (p := v318 < (0 : Int32)) ⟨fun hc320 => ?_, fun hc320 => ?_⟩)
  · have h321 := h319.1 hc320
    refine wpc_sl (n := 1) (c' := 16) (pc' := 10) (ls' := [some (.ref 0), some (.int v318), none, none, none]) (st' := [.int (0 : Int32)]) (s' := s317) rfl ?_
    exact wpc_ret rfl rfl (fun q => absurd q (by decide)) rfl ⟨(0 : Int32), rfl, h321⟩
  · have h322 := h319.2 hc320
    refine wpc_sl (n := 3) (c' := 16) (pc' := 16) (ls' := [some (.ref 0), some (.int v318), none, none, none]) (st' := [.int v318, .ref 10]) (s' := s317) rfl ?_
    refine wpc_ldaI (a := 9) (N := 16) (v := (gI s317 10 (ix v318))) rfl rfl (by decide) h322.1 rfl ?_
    have h323 := h322.2
    refine wpc_sl (n := 4) (c' := 16) (pc' := 23) (ls' := [some (.ref 0), some (.int v318), some (.int (gI s317 10 (ix v318))), none, none]) (st' := [.int v318, .ref 11]) (s' := s317) rfl ?_
    refine wpc_ldaI (a := 10) (N := 16) (v := (gI s317 11 (ix v318))) rfl rfl (by decide) h323.1 rfl ?_
    have h324 := h323.2
    refine wpc_sl (n := 4) (c' := 16) (pc' := 30) (ls' := [some (.ref 0), some (.int v318), some (.int (gI s317 10 (ix v318))), some (.int (gI s317 11 (ix v318))), none]) (st' := [.int v318, .ref 12]) (s' := s317) rfl ?_
    refine wpc_ldaZ (a := 11) (N := 16) (v := (gI s317 12 (ix v318))) rfl rfl (by decide) h324.1 rfl ?_
    have h325 := h324.2
    refine wpc_sl (n := 3) (c' := 16) (pc' := 35) (ls' := [some (.ref 0), some (.int v318), some (.int (gI s317 10 (ix v318))), some (.int (gI s317 11 (ix v318))), some (.int (gI s317 12 (ix v318)))]) (st' := [.int v318, .ref 0]) (s' := s317) rfl ?_
    refine wpc_callV (m' := 39) (me' := cm39) (as := [.int v318]) (r := []) rfl rfl rfl rfl rfl ⟨by decide, (by first | decide | exact Nat.le_of_ble_eq_true rfl), (by first | decide | exact Nat.le_of_ble_eq_true rfl), rfl⟩ (calV.mono h325 fun s326 h328 => ?_)
    refine wpc_sl (n := 2) (c' := 16) (pc' := 40) (ls' := [some (.ref 0), some (.int v318), some (.int (gI s317 10 (ix v318))), some (.int (gI s317 11 (ix v318))), some (.int (gI s317 12 (ix v318)))]) (st' := [.int (gI s317 10 (ix v318)), .ref 0]) (s' := s326) rfl ?_
    refine wpc_callI (m' := 22) (me' := cm22) (as := [.int (gI s317 10 (ix v318))]) (r := []) rfl rfl rfl rfl rfl ⟨by decide, (by first | decide | exact Nat.le_of_ble_eq_true rfl), (by first | decide | exact Nat.le_of_ble_eq_true rfl), rfl⟩ (calI.mono h328 fun v330 s329 h331 => ?_)
    refine wpc_if (a := 56) (b := 46) rfl (by decide) rfl rfl (wpc_br (p := v330 = (0 : Int32)) ⟨fun hc332 => ?_, fun hc332 => ?_⟩)
    · have h333 := h331.1 hc332
      refine wpc_sl (n := 1) (c' := 16) (pc' := 57) (ls' := [some (.ref 0), some (.int v318), some (.int (gI s317 10 (ix v318))), some (.int (gI s317 11 (ix v318))), some (.int (gI s317 12 (ix v318)))]) (st' := [.int (1 : Int32)]) (s' := s329) rfl ?_
      exact wpc_ret rfl rfl (fun q => absurd q (by decide)) rfl ⟨(1 : Int32), rfl, h333⟩
    · have h334 := h331.2 hc332
      refine wpc_sl (n := 1) (c' := 16) (pc' := 47) (ls' := [some (.ref 0), some (.int v318), some (.int (gI s317 10 (ix v318))), some (.int (gI s317 11 (ix v318))), some (.int (gI s317 12 (ix v318)))]) (st' := [.int (gI s317 11 (ix v318))]) (s' := s329) rfl ?_
      refine wpc_if (a := 56) (b := 50) rfl (by decide) rfl rfl (wpc_br (p := (gI s317 11 (ix v318)) < (0 : Int32)) ⟨fun hc335 => ?_, fun hc335 => ?_⟩)
      · have h336 := h334.1 hc335
        refine wpc_sl (n := 1) (c' := 16) (pc' := 57) (ls' := [some (.ref 0), some (.int v318), some (.int (gI s317 10 (ix v318))), some (.int (gI s317 11 (ix v318))), some (.int (gI s317 12 (ix v318)))]) (st' := [.int (1 : Int32)]) (s' := s329) rfl ?_
        exact wpc_ret rfl rfl (fun q => absurd q (by decide)) rfl ⟨(1 : Int32), rfl, h336⟩
      · have h337 := h334.2 hc335
        refine wpc_sl (n := 2) (c' := 16) (pc' := 53) (ls' := [some (.ref 0), some (.int v318), some (.int (gI s317 10 (ix v318))), some (.int (gI s317 11 (ix v318))), some (.int (gI s317 12 (ix v318)))]) (st' := [.int (32 : Int32), .int (gI s317 11 (ix v318))]) (s' := s329) rfl ?_
        refine wpc_icmp (a := 58) (b := 56) rfl (by decide) rfl rfl (wpc_br (p := (gI s317 11 (ix v318)) < (32 : Int32)) ⟨fun hc338 => ?_, fun hc338 => ?_⟩)
        · have h339 := h337.1 hc338
          refine wpc_sl (n := 4) (c' := 16) (pc' := 63) (ls' := [some (.ref 0), some (.int v318), some (.int (gI s317 10 (ix v318))), some (.int (gI s317 11 (ix v318))), some (.int (gI s317 12 (ix v318)))]) (st' := [.int (gI s317 12 (ix v318)), .int (gI s317 11 (ix v318)), .int (gI s317 10 (ix v318)), .ref 0]) (s' := s329) rfl ?_
          refine wpc_callV (m' := 41) (me' := cm41) (as := [.int (gI s317 10 (ix v318)), .int (gI s317 11 (ix v318)), .int (gI s317 12 (ix v318))]) (r := []) rfl rfl rfl rfl rfl ⟨by decide, (by first | decide | exact Nat.le_of_ble_eq_true rfl), (by first | decide | exact Nat.le_of_ble_eq_true rfl), rfl⟩ (calV.mono h339 fun s341 h343 => ?_)
          refine wpc_sl (n := 7) (c' := 16) (pc' := 77) (ls' := [some (.ref 0), some (.int v318), some (.int (gI s317 10 (ix v318))), some (.int (gI s317 11 (ix v318))), some (.int (gI s317 12 (ix v318)))]) (st' := [.int (0 : Int32), .int (gI s317 10 (ix v318)), .ref 7]) (s' := (sI s341 0 31 (gI s317 11 (ix v318)))) rfl ?_
          refine wpc_staZ (a := 6) (N := 8) (s' := (sI (sI s341 0 31 (gI s317 11 (ix v318))) 7 (ix (gI s317 10 (ix v318))) (0 : Int32))) rfl rfl (by decide) h343.1 rfl ?_
          have h344 := h343.2
          refine wpc_sl (n := 2) (c' := 16) (pc' := 80) (ls' := [some (.ref 0), some (.int v318), some (.int (gI s317 10 (ix v318))), some (.int (gI s317 11 (ix v318))), some (.int (gI s317 12 (ix v318)))]) (st' := [.int (gI s317 10 (ix v318)), .ref 0]) (s' := (sI (sI s341 0 31 (gI s317 11 (ix v318))) 7 (ix (gI s317 10 (ix v318))) (0 : Int32))) rfl ?_
          refine wpc_callV (m' := 42) (me' := cm42) (as := [.int (gI s317 10 (ix v318))]) (r := []) rfl rfl rfl rfl rfl ⟨by decide, (by first | decide | exact Nat.le_of_ble_eq_true rfl), (by first | decide | exact Nat.le_of_ble_eq_true rfl), rfl⟩ (calV.mono h344 fun s345 h347 => ?_)
          refine wpc_sl (n := 1) (c' := 16) (pc' := 84) (ls' := [some (.ref 0), some (.int v318), some (.int (gI s317 10 (ix v318))), some (.int (gI s317 11 (ix v318))), some (.int (gI s317 12 (ix v318)))]) (st' := [.int (1 : Int32)]) (s' := s345) rfl ?_
          exact wpc_ret rfl rfl (fun q => absurd q (by decide)) rfl ⟨(1 : Int32), rfl, h347⟩
        · have h340 := h337.2 hc338
          refine wpc_sl (n := 1) (c' := 16) (pc' := 57) (ls' := [some (.ref 0), some (.int v318), some (.int (gI s317 10 (ix v318))), some (.int (gI s317 11 (ix v318))), some (.int (gI s317 12 (ix v318)))]) (st' := [.int (1 : Int32)]) (s' := s329) rfl ?_
          exact wpc_ret rfl rfl (fun q => absurd q (by decide)) rfl ⟨(1 : Int32), rfl, h340⟩
theorem c36_in (a1 : Int32) (a2 : Int32) (a3 : Int32) (s : St) (Q : Int32 → St → Prop) (h : (((gI s 0 30) < (16 : Int32)) → inb 16 (gI s 0 30) ∧ inb 16 (gI s 0 30) ∧ inb 16 (gI s 0 30) ∧ Q (1 : Int32) (sI (sI (sI (sI s 10 (ix (gI s 0 30)) a1) 11 (ix (gI s 0 30)) a2) 12 (ix (gI s 0 30)) (a3 &&& 1)) 0 30 ((gI s 0 30) + (1 : Int32)))) ∧ (¬ ((gI s 0 30) < (16 : Int32)) → Q (0 : Int32) s)) : calI PP 36 16 [.ref 0, .int a1, .int a2, .int a3] s Q := by
  refine cal_of (me := cm36) (ls := [some (.ref 0), some (.int a1), some (.int a2), some (.int a3)]) rfl (Nat.le_of_ble_eq_true rfl) rfl ?_
  refine wpc_sl (n := 3) (c' := 16) (pc' := 6) (ls' := [some (.ref 0), some (.int a1), some (.int a2), some (.int a3)]) (st' := [.int (16 : Int32), .int (gI s 0 30)]) (s' := s) rfl ?_
  refine wpc_icmp (a := 11) (b := 9) rfl (by decide) rfl rfl (wpc_br (p := (gI s 0 30) < (16 : Int32)) ⟨fun hc413 => ?_, fun hc413 => ?_⟩)
  · have h414 := h.1 hc413
    refine wpc_sl (n := 5) (c' := 16) (pc' := 20) (ls' := [some (.ref 0), some (.int a1), some (.int a2), some (.int a3)]) (st' := [.int a1, .int (gI s 0 30), .ref 10]) (s' := s) rfl ?_
    refine wpc_staI (a := 9) (N := 16) (s' := (sI s 10 (ix (gI s 0 30)) a1)) rfl rfl (by decide) h414.1 rfl ?_
    have h416 := h414.2
    refine wpc_sl (n := 5) (c' := 16) (pc' := 30) (ls' := [some (.ref 0), some (.int a1), some (.int a2), some (.int a3)]) (st' := [.int a2, .int (gI s 0 30), .ref 11]) (s' := (sI s 10 (ix (gI s 0 30)) a1)) rfl ?_
    refine wpc_staI (a := 10) (N := 16) (s' := (sI (sI s 10 (ix (gI s 0 30)) a1) 11 (ix (gI s 0 30)) a2)) rfl rfl (by decide) h416.1 rfl ?_
    have h417 := h416.2
    refine wpc_sl (n := 5) (c' := 16) (pc' := 40) (ls' := [some (.ref 0), some (.int a1), some (.int a2), some (.int a3)]) (st' := [.int a3, .int (gI s 0 30), .ref 12]) (s' := (sI (sI s 10 (ix (gI s 0 30)) a1) 11 (ix (gI s 0 30)) a2)) rfl ?_
    refine wpc_staZ (a := 11) (N := 16) (s' := (sI (sI (sI s 10 (ix (gI s 0 30)) a1) 11 (ix (gI s 0 30)) a2) 12 (ix (gI s 0 30)) (a3 &&& 1))) rfl rfl (by decide) h417.1 rfl ?_
    have h418 := h417.2
    refine wpc_sl (n := 7) (c' := 16) (pc' := 52) (ls' := [some (.ref 0), some (.int a1), some (.int a2), some (.int a3)]) (st' := [.int (1 : Int32)]) (s' := (sI (sI (sI (sI s 10 (ix (gI s 0 30)) a1) 11 (ix (gI s 0 30)) a2) 12 (ix (gI s 0 30)) (a3 &&& 1)) 0 30 ((gI s 0 30) + (1 : Int32)))) rfl ?_
    exact wpc_ret rfl rfl (fun q => absurd q (by decide)) rfl ⟨(1 : Int32), rfl, h418⟩
  · have h415 := h.2 hc413
    refine wpc_sl (n := 1) (c' := 16) (pc' := 10) (ls' := [some (.ref 0), some (.int a1), some (.int a2), some (.int a3)]) (st' := [.int (0 : Int32)]) (s' := s) rfl ?_
    exact wpc_ret rfl rfl (fun q => absurd q (by decide)) rfl ⟨(0 : Int32), rfl, h415⟩
theorem c33_in  (s : St) (Q : Int32 → St → Prop) (h : wpcI PP 33 cm33 16 2 [some (.ref 0), some (.int (0 : Int32)), none, none] [] s Q) : calI PP 33 16 [.ref 0] s Q := by
  refine cal_of (me := cm33) (ls := [some (.ref 0), none, none, none]) rfl (Nat.le_of_ble_eq_true rfl) rfl ?_
  refine wpc_sl (n := 2) (c' := 16) (pc' := 2) (ls' := [some (.ref 0), some (.int (0 : Int32)), none, none]) (st' := []) (s' := s) rfl ?_
  exact h
theorem c33_2 (x1 : Int32) (s : St) (Q : Int32 → St → Prop) (h : ((x1 < (64 : Int32)) → calI PP 34 16 [.ref 0] s (fun v266 s265 => ((v266 < (0 : Int32)) → calI PP 40 16 [.ref 0] s265 (fun v272 s271 => ((v272 = (0 : Int32)) → Q (-1 : Int32) s271) ∧ (¬ (v272 = (0 : Int32)) → wpcI PP 33 cm33 16 84 [some (.ref 0), some (.int x1), none, none] [] s271 Q))) ∧ (¬ (v266 < (0 : Int32)) → inb 8 v266 ∧ (((gI s265 6 (ix v266)) = (0 : Int32)) → Q v266 s265) ∧ (¬ ((gI s265 6 (ix v266)) = (0 : Int32)) → inb 8 v266 ∧ (((gI s265 5 (ix v266)) = (0 : Int32)) → Q v266 s265) ∧ (¬ ((gI s265 5 (ix v266)) = (0 : Int32)) → inb 8 v266 ∧ (((gI s265 4 (ix v266)) < (0 : Int32)) → Q v266 s265) ∧ (¬ ((gI s265 4 (ix v266)) < (0 : Int32)) → inb 8 v266 ∧ calI PP 36 16 [.ref 0, .int v266, .int (gI s265 4 (ix v266)), .int (1 : Int32)] s265 (fun v291 s290 => ((v291 = (0 : Int32)) → Q (-1 : Int32) s290) ∧ (¬ (v291 = (0 : Int32)) → inb 8 v266 ∧ wpcI PP 33 cm33 16 84 [some (.ref 0), some (.int x1), none, none] [] (sI s290 7 (ix v266) (1 : Int32)) Q)))))))) ∧ (¬ (x1 < (64 : Int32)) → Q (-1 : Int32) s)) : wpcI PP 33 cm33 16 2 [some (.ref 0), some (.int x1), none, none] [] s Q := by
  refine wpc_sl (n := 2) (c' := 16) (pc' := 5) (ls' := [some (.ref 0), some (.int x1), none, none]) (st' := [.int (64 : Int32), .int x1]) (s' := s) rfl ?_
  refine wpc_icmp (a := 90) (b := 8) rfl (by decide) rfl rfl (wpc_br (p := x1 < (64 : Int32)) ⟨fun hc262 => ?_, fun hc262 => ?_⟩)
  · have h263 := h.1 hc262
    refine wpc_sl (n := 1) (c' := 16) (pc' := 9) (ls' := [some (.ref 0), some (.int x1), none, none]) (st' := [.ref 0]) (s' := s) rfl ?_
    refine wpc_callI (m' := 34) (me' := cm34) (as := []) (r := []) rfl rfl rfl rfl rfl ⟨by decide, (by first | decide | exact Nat.le_of_ble_eq_true rfl), (by first | decide | exact Nat.le_of_ble_eq_true rfl), rfl⟩ (calI.mono h263 fun v266 s265 h267 => ?_)
    refine wpc_sl (n := 2) (c' := 16) (pc' := 14) (ls' := [some (.ref 0), some (.int x1), some (.int v266), none]) (st' := [.int v266]) (s' := s265) rfl ?_
    refine wpc_if (a := 26) (b := 17) rfl (by decide) rfl rfl (wpc_br (p := v266 < (0 : Int32)) ⟨fun hc268 => ?_, fun hc268 => ?_⟩)
    · have h269 := h267.1 hc268
      refine wpc_sl (n := 1) (c' := 16) (pc' := 18) (ls' := [some (.ref 0), some (.int x1), some (.int v266), none]) (st' := [.ref 0]) (s' := s265) rfl ?_
      refine wpc_callI (m' := 40) (me' := cm40) (as := []) (r := []) rfl rfl rfl rfl rfl ⟨by decide, (by first | decide | exact Nat.le_of_ble_eq_true rfl), (by first | decide | exact Nat.le_of_ble_eq_true rfl), rfl⟩ (calI.mono h269 fun v272 s271 h273 => ?_)
      refine wpc_if (a := 84) (b := 24) rfl (by decide) rfl rfl (wpc_br (p := v272 = (0 : Int32)) ⟨fun hc274 => ?_, fun hc274 => ?_⟩)
      · have h275 := h273.1 hc274
        refine wpc_sl (n := 1) (c' := 16) (pc' := 25) (ls' := [some (.ref 0), some (.int x1), some (.int v266), none]) (st' := [.int (-1 : Int32)]) (s' := s271) rfl ?_
        exact wpc_ret rfl rfl (fun q => absurd q (by decide)) rfl ⟨(-1 : Int32), rfl, h275⟩
      · have h276 := h273.2 hc274
        exact wpc_lle (ls := [some (.ref 0), some (.int x1), none, none]) ⟨rfl, rfl, trivial⟩ h276
    · have h270 := h267.2 hc268
      refine wpc_sl (n := 3) (c' := 16) (pc' := 31) (ls' := [some (.ref 0), some (.int x1), some (.int v266), none]) (st' := [.int v266, .ref 6]) (s' := s265) rfl ?_
      refine wpc_ldaZ (a := 5) (N := 8) (v := (gI s265 6 (ix v266))) rfl rfl (by decide) h270.1 rfl ?_
      have h277 := h270.2
      refine wpc_if (a := 82) (b := 35) rfl (by decide) rfl rfl (wpc_br (p := (gI s265 6 (ix v266)) = (0 : Int32)) ⟨fun hc278 => ?_, fun hc278 => ?_⟩)
      · have h279 := h277.1 hc278
        refine wpc_sl (n := 1) (c' := 16) (pc' := 83) (ls' := [some (.ref 0), some (.int x1), some (.int v266), none]) (st' := [.int v266]) (s' := s265) rfl ?_
        exact wpc_ret rfl rfl (fun q => absurd q (by decide)) rfl ⟨v266, rfl, h279⟩
      · have h280 := h277.2 hc278
        refine wpc_sl (n := 3) (c' := 16) (pc' := 40) (ls' := [some (.ref 0), some (.int x1), some (.int v266), none]) (st' := [.int v266, .ref 5]) (s' := s265) rfl ?_
        refine wpc_ldaZ (a := 4) (N := 8) (v := (gI s265 5 (ix v266))) rfl rfl (by decide) h280.1 rfl ?_
        have h281 := h280.2
        refine wpc_if (a := 82) (b := 44) rfl (by decide) rfl rfl (wpc_br (p := (gI s265 5 (ix v266)) = (0 : Int32)) ⟨fun hc282 => ?_, fun hc282 => ?_⟩)
        · have h283 := h281.1 hc282
          refine wpc_sl (n := 1) (c' := 16) (pc' := 83) (ls' := [some (.ref 0), some (.int x1), some (.int v266), none]) (st' := [.int v266]) (s' := s265) rfl ?_
          exact wpc_ret rfl rfl (fun q => absurd q (by decide)) rfl ⟨v266, rfl, h283⟩
        · have h284 := h281.2 hc282
          refine wpc_sl (n := 3) (c' := 16) (pc' := 49) (ls' := [some (.ref 0), some (.int x1), some (.int v266), none]) (st' := [.int v266, .ref 4]) (s' := s265) rfl ?_
          refine wpc_ldaI (a := 3) (N := 8) (v := (gI s265 4 (ix v266))) rfl rfl (by decide) h284.1 rfl ?_
          have h285 := h284.2
          refine wpc_if (a := 82) (b := 53) rfl (by decide) rfl rfl (wpc_br (p := (gI s265 4 (ix v266)) < (0 : Int32)) ⟨fun hc286 => ?_, fun hc286 => ?_⟩)
          · have h287 := h285.1 hc286
            refine wpc_sl (n := 1) (c' := 16) (pc' := 83) (ls' := [some (.ref 0), some (.int x1), some (.int v266), none]) (st' := [.int v266]) (s' := s265) rfl ?_
            exact wpc_ret rfl rfl (fun q => absurd q (by decide)) rfl ⟨v266, rfl, h287⟩
          · have h288 := h285.2 hc286
            refine wpc_sl (n := 3) (c' := 16) (pc' := 58) (ls' := [some (.ref 0), some (.int x1), some (.int v266), none]) (st' := [.int v266, .ref 4]) (s' := s265) rfl ?_
            refine wpc_ldaI (a := 3) (N := 8) (v := (gI s265 4 (ix v266))) rfl rfl (by decide) h288.1 rfl ?_
            have h289 := h288.2
            refine wpc_sl (n := 5) (c' := 16) (pc' := 64) (ls' := [some (.ref 0), some (.int x1), some (.int v266), some (.int (gI s265 4 (ix v266)))]) (st' := [.int (1 : Int32), .int (gI s265 4 (ix v266)), .int v266, .ref 0]) (s' := s265) rfl ?_
            refine wpc_callI (m' := 36) (me' := cm36) (as := [.int v266, .int (gI s265 4 (ix v266)), .int (1 : Int32)]) (r := []) rfl rfl rfl rfl rfl ⟨by decide, (by first | decide | exact Nat.le_of_ble_eq_true rfl), (by first | decide | exact Nat.le_of_ble_eq_true rfl), rfl⟩ (calI.mono h289 fun v291 s290 h292 => ?_)
            refine wpc_if (a := 72) (b := 70) rfl (by decide) rfl rfl (wpc_br (p := v291 = (0 : Int32)) ⟨fun hc293 => ?_, fun hc293 => ?_⟩)
            · have h294 := h292.1 hc293
              refine wpc_sl (n := 1) (c' := 16) (pc' := 71) (ls' := [some (.ref 0), some (.int x1), some (.int v266), some (.int (gI s265 4 (ix v266)))]) (st' := [.int (-1 : Int32)]) (s' := s290) rfl ?_
              exact wpc_ret rfl rfl (fun q => absurd q (by decide)) rfl ⟨(-1 : Int32), rfl, h294⟩
            · have h295 := h292.2 hc293
              refine wpc_sl (n := 4) (c' := 16) (pc' := 78) (ls' := [some (.ref 0), some (.int x1), some (.int v266), some (.int (gI s265 4 (ix v266)))]) (st' := [.int (1 : Int32), .int v266, .ref 7]) (s' := s290) rfl ?_
              refine wpc_staZ (a := 6) (N := 8) (s' := (sI s290 7 (ix v266) (1 : Int32))) rfl rfl (by decide) h295.1 rfl ?_
              have h296 := h295.2
              refine wpc_sl (n := 1) (c' := 16) (pc' := 84) (ls' := [some (.ref 0), some (.int x1), some (.int v266), some (.int (gI s265 4 (ix v266)))]) (st' := []) (s' := (sI s290 7 (ix v266) (1 : Int32))) rfl ?_
              exact wpc_lle (ls := [some (.ref 0), some (.int x1), none, none]) ⟨rfl, rfl, trivial⟩ h296
  · have h264 := h.2 hc262
    refine wpc_sl (n := 1) (c' := 16) (pc' := 91) (ls' := [some (.ref 0), some (.int x1), none, none]) (st' := [.int (-1 : Int32)]) (s' := s) rfl ?_
    exact wpc_ret rfl rfl (fun q => absurd q (by decide)) rfl ⟨(-1 : Int32), rfl, h264⟩
theorem c33_84 (x1 : Int32) (s : St) (Q : Int32 → St → Prop) (h : wpcI PP 33 cm33 16 2 [some (.ref 0), some (.int (x1 + (1 : Int32))), none, none] [] s Q) : wpcI PP 33 cm33 16 84 [some (.ref 0), some (.int x1), none, none] [] s Q := by
  refine wpc_sl (n := 2) (c' := 16) (pc' := 2) (ls' := [some (.ref 0), some (.int (x1 + (1 : Int32))), none, none]) (st' := []) (s' := s) rfl ?_
  exact h
theorem c35_in (a1 : Int32) (a2 : Int32) (s : St) (Q : St → Prop) (h : calI PP 22 16 [.ref 0, .int a2] s (fun v420 s419 => ((v420 = (0 : Int32)) → Q s419) ∧ (¬ (v420 = (0 : Int32)) → ∀ m425, m425 = (if a1 < (0 : Int32) then (0 : Int32) else (if a1 < (gI s419 0 16) then (1 : Int32) else (0 : Int32))) → (((m425 = (0 : Int32)) → wpcV PP 35 cm35 16 47 [some (.ref 0), some (.int a1), some (.int a2), some (.int m425), none] [] s419 Q) ∧ (¬ (m425 = (0 : Int32)) → inb 8 a2 ∧ (((gI s419 7 (ix a2)) = (0 : Int32)) → wpcV PP 35 cm35 16 47 [some (.ref 0), some (.int a1), some (.int a2), some (.int m425), none] [] s419 Q) ∧ (¬ ((gI s419 7 (ix a2)) = (0 : Int32)) → inb 4 a1 ∧ wpcV PP 35 cm35 16 47 [some (.ref 0), some (.int a1), some (.int a2), some (.int m425), none] [] (sI s419 16 (ix a1) a2) Q)))))) : calV PP 35 16 [.ref 0, .int a1, .int a2] s Q := by
  refine cal_of (me := cm35) (ls := [some (.ref 0), some (.int a1), some (.int a2), none, none]) rfl (Nat.le_of_ble_eq_true rfl) rfl ?_
  refine wpc_sl (n := 2) (c' := 16) (pc' := 2) (ls' := [some (.ref 0), some (.int a1), some (.int a2), none, none]) (st' := [.int a2, .ref 0]) (s' := s) rfl ?_
  refine wpc_callI (m' := 22) (me' := cm22) (as := [.int a2]) (r := []) rfl rfl rfl rfl rfl ⟨by decide, (by first | decide | exact Nat.le_of_ble_eq_true rfl), (by first | decide | exact Nat.le_of_ble_eq_true rfl), rfl⟩ (calI.mono h fun v420 s419 h421 => ?_)
  refine wpc_if (a := 9) (b := 8) rfl (by decide) rfl rfl (wpc_br (p := v420 = (0 : Int32)) ⟨fun hc422 => ?_, fun hc422 => ?_⟩)
  · have h423 := h421.1 hc422
    exact wpc_ret rfl rfl (fun q => absurd q (by decide)) rfl ⟨rfl, h423⟩
  · have h424 := h421.2 hc422
    refine wpc_sl (n := 1) (c' := 16) (pc' := 10) (ls' := [some (.ref 0), some (.int a1), some (.int a2), none, none]) (st' := [.int a1]) (s' := s419) rfl ?_
    have hm426 : ∀ m425, m425 = (if a1 < (0 : Int32) then (0 : Int32) else (if a1 < (gI s419 0 16) then (1 : Int32) else (0 : Int32))) → wpcV PP 35 cm35 16 26 [some (.ref 0), some (.int a1), some (.int a2), none, none] [.int m425] s419 Q := by
      intro m425 em425
      have h427 := h424 m425 em425
      refine wpc_sl (n := 2) (c' := 16) (pc' := 28) (ls' := [some (.ref 0), some (.int a1), some (.int a2), some (.int m425), none]) (st' := [.int m425]) (s' := s419) rfl ?_
      refine wpc_if (a := 47) (b := 31) rfl (by decide) rfl rfl (wpc_br (p := m425 = (0 : Int32)) ⟨fun hc428 => ?_, fun hc428 => ?_⟩)
      · have h429 := h427.1 hc428
        exact h429
      · have h430 := h427.2 hc428
        refine wpc_sl (n := 3) (c' := 16) (pc' := 36) (ls' := [some (.ref 0), some (.int a1), some (.int a2), some (.int m425), none]) (st' := [.int a2, .ref 7]) (s' := s419) rfl ?_
        refine wpc_ldaZ (a := 6) (N := 8) (v := (gI s419 7 (ix a2))) rfl rfl (by decide) h430.1 rfl ?_
        have h431 := h430.2
        refine wpc_if (a := 47) (b := 40) rfl (by decide) rfl rfl (wpc_br (p := (gI s419 7 (ix a2)) = (0 : Int32)) ⟨fun hc432 => ?_, fun hc432 => ?_⟩)
        · have h433 := h431.1 hc432
          exact h433
        · have h434 := h431.2 hc432
          refine wpc_sl (n := 4) (c' := 16) (pc' := 46) (ls' := [some (.ref 0), some (.int a1), some (.int a2), some (.int m425), none]) (st' := [.int a2, .int a1, .ref 16]) (s' := s419) rfl ?_
          refine wpc_staI (a := 15) (N := 4) (s' := (sI s419 16 (ix a1) a2)) rfl rfl (by decide) h434.1 rfl ?_
          have h435 := h434.2
          exact h435
    refine wpc_if (a := 25) (b := 13) rfl (by decide) rfl rfl (wpc_br (p := a1 < (0 : Int32)) ⟨fun hc436 => ?_, fun hc436 => ?_⟩)
    · refine wpc_sl (n := 1) (c' := 16) (pc' := 26) (ls' := [some (.ref 0), some (.int a1), some (.int a2), none, none]) (st' := [.int (0 : Int32)]) (s' := s419) rfl ?_
      first | exact hm426 _ (by simp only [if_pos hc436]) | exact wpc_lle (by repeat (first | exact trivial | refine ⟨rfl, ?_⟩)) (hm426 _ (by simp only [if_pos hc436]))
    · refine wpc_sl (n := 3) (c' := 16) (pc' := 18) (ls' := [some (.ref 0), some (.int a1), some (.int a2), none, none]) (st' := [.int (gI s419 0 16), .int a1]) (s' := s419) rfl ?_
      refine wpc_icmp (a := 25) (b := 21) rfl (by decide) rfl rfl (wpc_br (p := a1 < (gI s419 0 16)) ⟨fun hc437 => ?_, fun hc437 => ?_⟩)
      · refine wpc_sl (n := 2) (c' := 16) (pc' := 26) (ls' := [some (.ref 0), some (.int a1), some (.int a2), none, none]) (st' := [.int (1 : Int32)]) (s' := s419) rfl ?_
        first | exact hm426 _ (by simp only [if_neg hc436, if_pos hc437]) | exact wpc_lle (by repeat (first | exact trivial | refine ⟨rfl, ?_⟩)) (hm426 _ (by simp only [if_neg hc436, if_pos hc437]))
      · refine wpc_sl (n := 1) (c' := 16) (pc' := 26) (ls' := [some (.ref 0), some (.int a1), some (.int a2), none, none]) (st' := [.int (0 : Int32)]) (s' := s419) rfl ?_
        first | exact hm426 _ (by simp only [if_neg hc436, if_neg hc437]) | exact wpc_lle (by repeat (first | exact trivial | refine ⟨rfl, ?_⟩)) (hm426 _ (by simp only [if_neg hc436, if_neg hc437]))
theorem c35_47 (x1 : Int32) (x2 : Int32) (x3 : Int32) (s : St) (Q : St → Prop) (h : wpcV PP 35 cm35 16 50 [some (.ref 0), some (.int x1), some (.int x2), some (.int x3), some (.int (0 : Int32))] [] s Q) : wpcV PP 35 cm35 16 47 [some (.ref 0), some (.int x1), some (.int x2), some (.int x3), none] [] s Q := by
  refine wpc_sl (n := 2) (c' := 16) (pc' := 50) (ls' := [some (.ref 0), some (.int x1), some (.int x2), some (.int x3), some (.int (0 : Int32))]) (st' := []) (s' := s) rfl ?_
  exact h
theorem c35_50 (x1 : Int32) (x2 : Int32) (x3 : Int32) (x4 : Int32) (s : St) (Q : St → Prop) (h : ((x4 < (64 : Int32)) → inb 8 x2 ∧ (((gI s 7 (ix x2)) = (0 : Int32)) → wpcV PP 35 cm35 16 85 [some (.ref 0), some (.int x1), none, some (.int x3), none] [] s Q) ∧ (¬ ((gI s 7 (ix x2)) = (0 : Int32)) → calI PP 40 16 [.ref 0] s (fun v446 s445 => ((v446 = (0 : Int32)) → wpcV PP 35 cm35 16 85 [some (.ref 0), some (.int x1), none, some (.int x3), none] [] s445 Q) ∧ (¬ (v446 = (0 : Int32)) → wpcV PP 35 cm35 16 50 [some (.ref 0), some (.int x1), some (.int x2), some (.int x3), some (.int (x4 + (1 : Int32)))] [] s445 Q)))) ∧ (¬ (x4 < (64 : Int32)) → wpcV PP 35 cm35 16 85 [some (.ref 0), some (.int x1), none, some (.int x3), none] [] s Q)) : wpcV PP 35 cm35 16 50 [some (.ref 0), some (.int x1), some (.int x2), some (.int x3), some (.int x4)] [] s Q := by
  refine wpc_sl (n := 2) (c' := 16) (pc' := 54) (ls' := [some (.ref 0), some (.int x1), some (.int x2), some (.int x3), some (.int x4)]) (st' := [.int (64 : Int32), .int x4]) (s' := s) rfl ?_
  refine wpc_icmp (a := 85) (b := 57) rfl (by decide) rfl rfl (wpc_br (p := x4 < (64 : Int32)) ⟨fun hc438 => ?_, fun hc438 => ?_⟩)
  · have h439 := h.1 hc438
    refine wpc_sl (n := 3) (c' := 16) (pc' := 62) (ls' := [some (.ref 0), some (.int x1), some (.int x2), some (.int x3), some (.int x4)]) (st' := [.int x2, .ref 7]) (s' := s) rfl ?_
    refine wpc_ldaZ (a := 6) (N := 8) (v := (gI s 7 (ix x2))) rfl rfl (by decide) h439.1 rfl ?_
    have h441 := h439.2
    refine wpc_if (a := 69) (b := 66) rfl (by decide) rfl rfl (wpc_br (p := (gI s 7 (ix x2)) = (0 : Int32)) ⟨fun hc442 => ?_, fun hc442 => ?_⟩)
    · have h443 := h441.1 hc442
      refine wpc_sl (n := 1) (c' := 16) (pc' := 85) (ls' := [some (.ref 0), some (.int x1), some (.int x2), some (.int x3), some (.int x4)]) (st' := []) (s' := s) rfl ?_
      exact wpc_lle (ls := [some (.ref 0), some (.int x1), none, some (.int x3), none]) ⟨rfl, rfl, rfl, trivial⟩ h443
    · have h444 := h441.2 hc442
      refine wpc_sl (n := 1) (c' := 16) (pc' := 70) (ls' := [some (.ref 0), some (.int x1), some (.int x2), some (.int x3), some (.int x4)]) (st' := [.ref 0]) (s' := s) rfl ?_
      refine wpc_callI (m' := 40) (me' := cm40) (as := []) (r := []) rfl rfl rfl rfl rfl ⟨by decide, (by first | decide | exact Nat.le_of_ble_eq_true rfl), (by first | decide | exact Nat.le_of_ble_eq_true rfl), rfl⟩ (calI.mono h444 fun v446 s445 h447 => ?_)
      refine wpc_if (a := 79) (b := 76) rfl (by decide) rfl rfl (wpc_br (p := v446 = (0 : Int32)) ⟨fun hc448 => ?_, fun hc448 => ?_⟩)
      · have h449 := h447.1 hc448
        refine wpc_sl (n := 1) (c' := 16) (pc' := 85) (ls' := [some (.ref 0), some (.int x1), some (.int x2), some (.int x3), some (.int x4)]) (st' := []) (s' := s445) rfl ?_
        exact wpc_lle (ls := [some (.ref 0), some (.int x1), none, some (.int x3), none]) ⟨rfl, rfl, rfl, trivial⟩ h449
      · have h450 := h447.2 hc448
        refine wpc_sl (n := 2) (c' := 16) (pc' := 50) (ls' := [some (.ref 0), some (.int x1), some (.int x2), some (.int x3), some (.int (x4 + (1 : Int32)))]) (st' := []) (s' := s445) rfl ?_
        exact h450
  · have h440 := h.2 hc438
    exact wpc_lle (ls := [some (.ref 0), some (.int x1), none, some (.int x3), none]) ⟨rfl, rfl, rfl, trivial⟩ h440
theorem c35_85 (x1 : Int32) (x3 : Int32) (s : St) (Q : St → Prop) (h : ((x3 = (0 : Int32)) → Q s) ∧ (¬ (x3 = (0 : Int32)) → inb 4 x1 ∧ Q (sI s 16 (ix x1) (-1 : Int32)))) : wpcV PP 35 cm35 16 85 [some (.ref 0), some (.int x1), none, some (.int x3), none] [] s Q := by
  refine wpc_sl (n := 1) (c' := 16) (pc' := 86) (ls' := [some (.ref 0), some (.int x1), none, some (.int x3), none]) (st' := [.int x3]) (s' := s) rfl ?_
  refine wpc_if (a := 96) (b := 89) rfl (by decide) rfl rfl (wpc_br (p := x3 = (0 : Int32)) ⟨fun hc451 => ?_, fun hc451 => ?_⟩)
  · have h452 := h.1 hc451
    exact wpc_ret rfl rfl (fun q => absurd q (by decide)) rfl ⟨rfl, h452⟩
  · have h453 := h.2 hc451
    refine wpc_sl (n := 4) (c' := 16) (pc' := 95) (ls' := [some (.ref 0), some (.int x1), none, some (.int x3), none]) (st' := [.int (-1 : Int32), .int x1, .ref 16]) (s' := s) rfl ?_
    refine wpc_staI (a := 15) (N := 4) (s' := (sI s 16 (ix x1) (-1 : Int32))) rfl rfl (by decide) h453.1 rfl ?_
    have h454 := h453.2
    exact wpc_ret rfl rfl (fun q => absurd q (by decide)) rfl ⟨rfl, h454⟩
theorem c30_in (a1 : Int32) (s : St) (Q : St → Prop) (h : inb 8 a1 ∧ Q (sI (sI s 0 26 ((gI s 0 26) + (1 : Int32))) 9 (ix a1) ((gI s 0 26) + (1 : Int32)))) : calV PP 30 16 [.ref 0, .int a1] s Q := by
  refine cal_of (me := cm30) (ls := [some (.ref 0), some (.int a1)]) rfl (Nat.le_of_ble_eq_true rfl) rfl ?_
  refine wpc_sl (n := 11) (c' := 16) (pc' := 19) (ls' := [some (.ref 0), some (.int a1)]) (st' := [.int ((gI s 0 26) + (1 : Int32)), .int a1, .ref 9]) (s' := (sI s 0 26 ((gI s 0 26) + (1 : Int32)))) rfl ?_
  refine wpc_staI (a := 8) (N := 8) (s' := (sI (sI s 0 26 ((gI s 0 26) + (1 : Int32))) 9 (ix a1) ((gI s 0 26) + (1 : Int32)))) rfl rfl (by decide) h.1 rfl ?_
  have h455 := h.2
  exact wpc_ret rfl rfl (fun q => absurd q (by decide)) rfl ⟨rfl, h455⟩
theorem c32_in (a1 : Int32) (a2 : Int32) (a3 : Int32) (s : St) (Q : Int32 → St → Prop) (h : calI PP 31 16 [.ref 0, .int a2] s (fun v217 s216 => ((v217 < (0 : Int32)) → calI PP 33 16 [.ref 0] s216 (fun v223 s222 => ((v223 < (0 : Int32)) → Q (-1 : Int32) s222) ∧ (¬ (v223 < (0 : Int32)) → inb 8 v223 ∧ inb 8 v223 ∧ inb 8 v223 ∧ wpcI PP 32 cm32 16 59 [some (.ref 0), some (.int a1), some (.int a2), some (.int a3), some (.int v223)] [] (sI (sI (sI s222 4 (ix v223) a2) 5 (ix v223) (0 : Int32)) 6 (ix v223) (0 : Int32)) Q))) ∧ (¬ (v217 < (0 : Int32)) → calV PP 35 16 [.ref 0, .int a1, .int v217] s216 (fun s231 => wpcI PP 32 cm32 16 59 [some (.ref 0), some (.int a1), some (.int a2), some (.int a3), some (.int v217)] [] s231 Q)))) : calI PP 32 16 [.ref 0, .int a1, .int a2, .int a3] s Q := by
  refine cal_of (me := cm32) (ls := [some (.ref 0), some (.int a1), some (.int a2), some (.int a3), none]) rfl (Nat.le_of_ble_eq_true rfl) rfl ?_
  refine wpc_sl (n := 2) (c' := 16) (pc' := 2) (ls' := [some (.ref 0), some (.int a1), some (.int a2), some (.int a3), none]) (st' := [.int a2, .ref 0]) (s' := s) rfl ?_
  refine wpc_callI (m' := 31) (me' := cm31) (as := [.int a2]) (r := []) rfl rfl rfl rfl rfl ⟨by decide, (by first | decide | exact Nat.le_of_ble_eq_true rfl), (by first | decide | exact Nat.le_of_ble_eq_true rfl), rfl⟩ (calI.mono h fun v217 s216 h218 => ?_)
  refine wpc_sl (n := 2) (c' := 16) (pc' := 9) (ls' := [some (.ref 0), some (.int a1), some (.int a2), some (.int a3), some (.int v217)]) (st' := [.int v217]) (s' := s216) rfl ?_
  refine wpc_if (a := 22) (b := 12) rfl (by decide) rfl rfl (wpc_br (p := v217 < (0 : Int32)) ⟨fun hc219 => ?_, fun hc219 => ?_⟩)
  · have h220 := h218.1 hc219
    refine wpc_sl (n := 1) (c' := 16) (pc' := 23) (ls' := [some (.ref 0), some (.int a1), some (.int a2), some (.int a3), some (.int v217)]) (st' := [.ref 0]) (s' := s216) rfl ?_
    refine wpc_callI (m' := 33) (me' := cm33) (as := []) (r := []) rfl rfl rfl rfl rfl ⟨by decide, (by first | decide | exact Nat.le_of_ble_eq_true rfl), (by first | decide | exact Nat.le_of_ble_eq_true rfl), rfl⟩ (calI.mono h220 fun v223 s222 h224 => ?_)
    refine wpc_sl (n := 2) (c' := 16) (pc' := 30) (ls' := [some (.ref 0), some (.int a1), some (.int a2), some (.int a3), some (.int v223)]) (st' := [.int v223]) (s' := s222) rfl ?_
    refine wpc_if (a := 35) (b := 33) rfl (by decide) rfl rfl (wpc_br (p := v223 < (0 : Int32)) ⟨fun hc225 => ?_, fun hc225 => ?_⟩)
    · have h226 := h224.1 hc225
      refine wpc_sl (n := 1) (c' := 16) (pc' := 34) (ls' := [some (.ref 0), some (.int a1), some (.int a2), some (.int a3), some (.int v223)]) (st' := [.int (-1 : Int32)]) (s' := s222) rfl ?_
      exact wpc_ret rfl rfl (fun q => absurd q (by decide)) rfl ⟨(-1 : Int32), rfl, h226⟩
    · have h227 := h224.2 hc225
      refine wpc_sl (n := 4) (c' := 16) (pc' := 42) (ls' := [some (.ref 0), some (.int a1), some (.int a2), some (.int a3), some (.int v223)]) (st' := [.int a2, .int v223, .ref 4]) (s' := s222) rfl ?_
      refine wpc_staI (a := 3) (N := 8) (s' := (sI s222 4 (ix v223) a2)) rfl rfl (by decide) h227.1 rfl ?_
      have h228 := h227.2
      refine wpc_sl (n := 4) (c' := 16) (pc' := 50) (ls' := [some (.ref 0), some (.int a1), some (.int a2), some (.int a3), some (.int v223)]) (st' := [.int (0 : Int32), .int v223, .ref 5]) (s' := (sI s222 4 (ix v223) a2)) rfl ?_
      refine wpc_staZ (a := 4) (N := 8) (s' := (sI (sI s222 4 (ix v223) a2) 5 (ix v223) (0 : Int32))) rfl rfl (by decide) h228.1 rfl ?_
      have h229 := h228.2
      refine wpc_sl (n := 4) (c' := 16) (pc' := 58) (ls' := [some (.ref 0), some (.int a1), some (.int a2), some (.int a3), some (.int v223)]) (st' := [.int (0 : Int32), .int v223, .ref 6]) (s' := (sI (sI s222 4 (ix v223) a2) 5 (ix v223) (0 : Int32))) rfl ?_
      refine wpc_staZ (a := 5) (N := 8) (s' := (sI (sI (sI s222 4 (ix v223) a2) 5 (ix v223) (0 : Int32)) 6 (ix v223) (0 : Int32))) rfl rfl (by decide) h229.1 rfl ?_
      have h230 := h229.2
      exact h230
  · have h221 := h218.2 hc219
    refine wpc_sl (n := 3) (c' := 16) (pc' := 16) (ls' := [some (.ref 0), some (.int a1), some (.int a2), some (.int a3), some (.int v217)]) (st' := [.int v217, .int a1, .ref 0]) (s' := s216) rfl ?_
    refine wpc_callV (m' := 35) (me' := cm35) (as := [.int a1, .int v217]) (r := []) rfl rfl rfl rfl rfl ⟨by decide, (by first | decide | exact Nat.le_of_ble_eq_true rfl), (by first | decide | exact Nat.le_of_ble_eq_true rfl), rfl⟩ (calV.mono h221 fun s231 h233 => ?_)
    refine wpc_sl (n := 1) (c' := 16) (pc' := 59) (ls' := [some (.ref 0), some (.int a1), some (.int a2), some (.int a3), some (.int v217)]) (st' := []) (s' := s231) rfl ?_
    exact h233
theorem c32_59 (x1 : Int32) (x2 : Int32) (x3 : Int32) (x4 : Int32) (s : St) (Q : Int32 → St → Prop) (h : inb 8 x4 ∧ calV PP 30 16 [.ref 0, .int x4] (sI s 8 (ix x4) (1 : Int32)) (fun s235 => ((x3 = (0 : Int32)) → Q x4 s235) ∧ (¬ (x3 = (0 : Int32)) → inb 8 x4 ∧ (((gI s235 5 (ix x4)) = (0 : Int32)) → calI PP 36 16 [.ref 0, .int x4, .int x2, .int (0 : Int32)] s235 (fun v246 s245 => ((v246 = (0 : Int32)) → wpcI PP 32 cm32 16 106 [some (.ref 0), some (.int x1), none, none, some (.int x4)] [] s245 Q) ∧ (¬ (v246 = (0 : Int32)) → inb 8 x4 ∧ wpcI PP 32 cm32 16 106 [some (.ref 0), some (.int x1), none, none, some (.int x4)] [] (sI s245 7 (ix x4) (1 : Int32)) Q))) ∧ (¬ ((gI s235 5 (ix x4)) = (0 : Int32)) → Q x4 s235)))) : wpcI PP 32 cm32 16 59 [some (.ref 0), some (.int x1), some (.int x2), some (.int x3), some (.int x4)] [] s Q := by
  refine wpc_sl (n := 4) (c' := 16) (pc' := 66) (ls' := [some (.ref 0), some (.int x1), some (.int x2), some (.int x3), some (.int x4)]) (st' := [.int (1 : Int32), .int x4, .ref 8]) (s' := s) rfl ?_
  refine wpc_staZ (a := 7) (N := 8) (s' := (sI s 8 (ix x4) (1 : Int32))) rfl rfl (by decide) h.1 rfl ?_
  have h234 := h.2
  refine wpc_sl (n := 2) (c' := 16) (pc' := 70) (ls' := [some (.ref 0), some (.int x1), some (.int x2), some (.int x3), some (.int x4)]) (st' := [.int x4, .ref 0]) (s' := (sI s 8 (ix x4) (1 : Int32))) rfl ?_
  refine wpc_callV (m' := 30) (me' := cm30) (as := [.int x4]) (r := []) rfl rfl rfl rfl rfl ⟨by decide, (by first | decide | exact Nat.le_of_ble_eq_true rfl), (by first | decide | exact Nat.le_of_ble_eq_true rfl), rfl⟩ (calV.mono h234 fun s235 h237 => ?_)
  refine wpc_sl (n := 1) (c' := 16) (pc' := 74) (ls' := [some (.ref 0), some (.int x1), some (.int x2), some (.int x3), some (.int x4)]) (st' := [.int x3]) (s' := s235) rfl ?_
  refine wpc_if (a := 113) (b := 77) rfl (by decide) rfl rfl (wpc_br (p := x3 = (0 : Int32)) ⟨fun hc238 => ?_, fun hc238 => ?_⟩)
  · have h239 := h237.1 hc238
    refine wpc_sl (n := 1) (c' := 16) (pc' := 115) (ls' := [some (.ref 0), some (.int x1), some (.int x2), some (.int x3), some (.int x4)]) (st' := [.int x4]) (s' := s235) rfl ?_
    exact wpc_ret rfl rfl (fun q => absurd q (by decide)) rfl ⟨x4, rfl, h239⟩
  · have h240 := h237.2 hc238
    refine wpc_sl (n := 3) (c' := 16) (pc' := 83) (ls' := [some (.ref 0), some (.int x1), some (.int x2), some (.int x3), some (.int x4)]) (st' := [.int x4, .ref 5]) (s' := s235) rfl ?_
    refine wpc_ldaZ (a := 4) (N := 8) (v := (gI s235 5 (ix x4))) rfl rfl (by decide) h240.1 rfl ?_
    have h241 := h240.2
    refine wpc_if (a := 113) (b := 87) rfl (by decide) rfl rfl (wpc_br (p := (gI s235 5 (ix x4)) = (0 : Int32)) ⟨fun hc242 => ?_, fun hc242 => ?_⟩)
    · have h243 := h241.1 hc242
      refine wpc_sl (n := 4) (c' := 16) (pc' := 92) (ls' := [some (.ref 0), some (.int x1), some (.int x2), some (.int x3), some (.int x4)]) (st' := [.int (0 : Int32), .int x2, .int x4, .ref 0]) (s' := s235) rfl ?_
      refine wpc_callI (m' := 36) (me' := cm36) (as := [.int x4, .int x2, .int (0 : Int32)]) (r := []) rfl rfl rfl rfl rfl ⟨by decide, (by first | decide | exact Nat.le_of_ble_eq_true rfl), (by first | decide | exact Nat.le_of_ble_eq_true rfl), rfl⟩ (calI.mono h243 fun v246 s245 h247 => ?_)
      refine wpc_if (a := 106) (b := 98) rfl (by decide) rfl rfl (wpc_br (p := v246 = (0 : Int32)) ⟨fun hc248 => ?_, fun hc248 => ?_⟩)
      · have h249 := h247.1 hc248
        exact wpc_lle (ls := [some (.ref 0), some (.int x1), none, none, some (.int x4)]) ⟨rfl, rfl, rfl, trivial⟩ h249
      · have h250 := h247.2 hc248
        refine wpc_sl (n := 4) (c' := 16) (pc' := 105) (ls' := [some (.ref 0), some (.int x1), some (.int x2), some (.int x3), some (.int x4)]) (st' := [.int (1 : Int32), .int x4, .ref 7]) (s' := s245) rfl ?_
        refine wpc_staZ (a := 6) (N := 8) (s' := (sI s245 7 (ix x4) (1 : Int32))) rfl rfl (by decide) h250.1 rfl ?_
        have h251 := h250.2
        exact wpc_lle (ls := [some (.ref 0), some (.int x1), none, none, some (.int x4)]) ⟨rfl, rfl, rfl, trivial⟩ h251
    · have h244 := h241.2 hc242
      refine wpc_sl (n := 1) (c' := 16) (pc' := 115) (ls' := [some (.ref 0), some (.int x1), some (.int x2), some (.int x3), some (.int x4)]) (st' := [.int x4]) (s' := s235) rfl ?_
      exact wpc_ret rfl rfl (fun q => absurd q (by decide)) rfl ⟨x4, rfl, h244⟩
theorem c32_106 (x1 : Int32) (x4 : Int32) (s : St) (Q : Int32 → St → Prop) (h : calV PP 35 16 [.ref 0, .int x1, .int x4] s (fun s252 => Q x4 s252)) : wpcI PP 32 cm32 16 106 [some (.ref 0), some (.int x1), none, none, some (.int x4)] [] s Q := by
  refine wpc_sl (n := 3) (c' := 16) (pc' := 110) (ls' := [some (.ref 0), some (.int x1), none, none, some (.int x4)]) (st' := [.int x4, .int x1, .ref 0]) (s' := s) rfl ?_
  refine wpc_callV (m' := 35) (me' := cm35) (as := [.int x1, .int x4]) (r := []) rfl rfl rfl rfl rfl ⟨by decide, (by first | decide | exact Nat.le_of_ble_eq_true rfl), (by first | decide | exact Nat.le_of_ble_eq_true rfl), rfl⟩ (calV.mono h fun s252 h254 => ?_)
  refine wpc_sl (n := 1) (c' := 16) (pc' := 115) (ls' := [some (.ref 0), some (.int x1), none, none, some (.int x4)]) (st' := [.int x4]) (s' := s252) rfl ?_
  exact wpc_ret rfl rfl (fun q => absurd q (by decide)) rfl ⟨x4, rfl, h254⟩
theorem c25_in (a1 : Int32) (a2 : Int32) (a3 : Int32) (a4 : Int32) (s : St) (Q : St → Prop) (h : calI PP 22 16 [.ref 0, .int a1] s (fun v457 s456 => ((v457 = (0 : Int32)) → inb 128 ((a2 * (4 : Int32)) + a3) ∧ Q (sI s456 1 (ix ((a2 * (4 : Int32)) + a3)) a4)) ∧ (¬ (v457 = (0 : Int32)) → inb 32 ((a1 * (4 : Int32)) + a3) ∧ Q (sI s456 3 (ix ((a1 * (4 : Int32)) + a3)) a4)))) : calV PP 25 16 [.ref 0, .int a1, .int a2, .int a3, .int a4] s Q := by
  refine cal_of (me := cm25) (ls := [some (.ref 0), some (.int a1), some (.int a2), some (.int a3), some (.int a4)]) rfl (Nat.le_of_ble_eq_true rfl) rfl ?_
  refine wpc_sl (n := 2) (c' := 16) (pc' := 2) (ls' := [some (.ref 0), some (.int a1), some (.int a2), some (.int a3), some (.int a4)]) (st' := [.int a1, .ref 0]) (s' := s) rfl ?_
  refine wpc_callI (m' := 22) (me' := cm22) (as := [.int a1]) (r := []) rfl rfl rfl rfl rfl ⟨by decide, (by first | decide | exact Nat.le_of_ble_eq_true rfl), (by first | decide | exact Nat.le_of_ble_eq_true rfl), rfl⟩ (calI.mono h fun v457 s456 h458 => ?_)
  refine wpc_if (a := 23) (b := 8) rfl (by decide) rfl rfl (wpc_br (p := v457 = (0 : Int32)) ⟨fun hc459 => ?_, fun hc459 => ?_⟩)
  · have h460 := h458.1 hc459
    refine wpc_sl (n := 8) (c' := 16) (pc' := 34) (ls' := [some (.ref 0), some (.int a1), some (.int a2), some (.int a3), some (.int a4)]) (st' := [.int a4, .int ((a2 * (4 : Int32)) + a3), .ref 1]) (s' := s456) rfl ?_
    refine wpc_staI (a := 0) (N := 128) (s' := (sI s456 1 (ix ((a2 * (4 : Int32)) + a3)) a4)) rfl rfl (by decide) h460.1 rfl ?_
    have h462 := h460.2
    exact wpc_ret rfl rfl (fun q => absurd q (by decide)) rfl ⟨rfl, h462⟩
  · have h461 := h458.2 hc459
    refine wpc_sl (n := 8) (c' := 16) (pc' := 19) (ls' := [some (.ref 0), some (.int a1), some (.int a2), some (.int a3), some (.int a4)]) (st' := [.int a4, .int ((a1 * (4 : Int32)) + a3), .ref 3]) (s' := s456) rfl ?_
    refine wpc_staI (a := 2) (N := 32) (s' := (sI s456 3 (ix ((a1 * (4 : Int32)) + a3)) a4)) rfl rfl (by decide) h461.1 rfl ?_
    have h463 := h461.2
    refine wpc_sl (n := 1) (c' := 16) (pc' := 35) (ls' := [some (.ref 0), some (.int a1), some (.int a2), some (.int a3), some (.int a4)]) (st' := []) (s' := (sI s456 3 (ix ((a1 * (4 : Int32)) + a3)) a4)) rfl ?_
    exact wpc_ret rfl rfl (fun q => absurd q (by decide)) rfl ⟨rfl, h463⟩
theorem c28_in (a1 : Int32) (s : St) (Q : St → Prop) (h : calI PP 22 16 [.ref 0, .int a1] s (fun v465 s464 => ((v465 = (0 : Int32)) → Q s464) ∧ (¬ (v465 = (0 : Int32)) → inb 8 a1 ∧ inb 8 a1 ∧ Q (sI (sI s464 5 (ix a1) (1 : Int32)) 6 (ix a1) (1 : Int32))))) : calV PP 28 16 [.ref 0, .int a1] s Q := by
  refine cal_of (me := cm28) (ls := [some (.ref 0), some (.int a1)]) rfl (Nat.le_of_ble_eq_true rfl) rfl ?_
  refine wpc_sl (n := 2) (c' := 16) (pc' := 2) (ls' := [some (.ref 0), some (.int a1)]) (st' := [.int a1, .ref 0]) (s' := s) rfl ?_
  refine wpc_callI (m' := 22) (me' := cm22) (as := [.int a1]) (r := []) rfl rfl rfl rfl rfl ⟨by decide, (by first | decide | exact Nat.le_of_ble_eq_true rfl), (by first | decide | exact Nat.le_of_ble_eq_true rfl), rfl⟩ (calI.mono h fun v465 s464 h466 => ?_)
  refine wpc_if (a := 22) (b := 8) rfl (by decide) rfl rfl (wpc_br (p := v465 = (0 : Int32)) ⟨fun hc467 => ?_, fun hc467 => ?_⟩)
  · have h468 := h466.1 hc467
    exact wpc_ret rfl rfl (fun q => absurd q (by decide)) rfl ⟨rfl, h468⟩
  · have h469 := h466.2 hc467
    refine wpc_sl (n := 4) (c' := 16) (pc' := 14) (ls' := [some (.ref 0), some (.int a1)]) (st' := [.int (1 : Int32), .int a1, .ref 5]) (s' := s464) rfl ?_
    refine wpc_staZ (a := 4) (N := 8) (s' := (sI s464 5 (ix a1) (1 : Int32))) rfl rfl (by decide) h469.1 rfl ?_
    have h470 := h469.2
    refine wpc_sl (n := 4) (c' := 16) (pc' := 21) (ls' := [some (.ref 0), some (.int a1)]) (st' := [.int (1 : Int32), .int a1, .ref 6]) (s' := (sI s464 5 (ix a1) (1 : Int32))) rfl ?_
    refine wpc_staZ (a := 5) (N := 8) (s' := (sI (sI s464 5 (ix a1) (1 : Int32)) 6 (ix a1) (1 : Int32))) rfl rfl (by decide) h470.1 rfl ?_
    have h471 := h470.2
    exact wpc_ret rfl rfl (fun q => absurd q (by decide)) rfl ⟨rfl, h471⟩
theorem c29_in (a1 : Int32) (s : St) (Q : St → Prop) (h : calI PP 22 16 [.ref 0, .int a1] s (fun v473 s472 => ((v473 = (0 : Int32)) → Q s472) ∧ (¬ (v473 = (0 : Int32)) → inb 8 a1 ∧ Q (sI s472 8 (ix a1) (0 : Int32))))) : calV PP 29 16 [.ref 0, .int a1] s Q := by
  refine cal_of (me := cm29) (ls := [some (.ref 0), some (.int a1)]) rfl (Nat.le_of_ble_eq_true rfl) rfl ?_
  refine wpc_sl (n := 2) (c' := 16) (pc' := 2) (ls' := [some (.ref 0), some (.int a1)]) (st' := [.int a1, .ref 0]) (s' := s) rfl ?_
  refine wpc_callI (m' := 22) (me' := cm22) (as := [.int a1]) (r := []) rfl rfl rfl rfl rfl ⟨by decide, (by first | decide | exact Nat.le_of_ble_eq_true rfl), (by first | decide | exact Nat.le_of_ble_eq_true rfl), rfl⟩ (calI.mono h fun v473 s472 h474 => ?_)
  refine wpc_if (a := 15) (b := 8) rfl (by decide) rfl rfl (wpc_br (p := v473 = (0 : Int32)) ⟨fun hc475 => ?_, fun hc475 => ?_⟩)
  · have h476 := h474.1 hc475
    exact wpc_ret rfl rfl (fun q => absurd q (by decide)) rfl ⟨rfl, h476⟩
  · have h477 := h474.2 hc475
    refine wpc_sl (n := 4) (c' := 16) (pc' := 14) (ls' := [some (.ref 0), some (.int a1)]) (st' := [.int (0 : Int32), .int a1, .ref 8]) (s' := s472) rfl ?_
    refine wpc_staZ (a := 7) (N := 8) (s' := (sI s472 8 (ix a1) (0 : Int32))) rfl rfl (by decide) h477.1 rfl ?_
    have h478 := h477.2
    exact wpc_ret rfl rfl (fun q => absurd q (by decide)) rfl ⟨rfl, h478⟩
theorem c7_in (a1 : Int32) (a2 : Int32) (a3 : Int32) (s : St) (Q : Int32 → St → Prop) (h : calI PP 19 16 [.ref 0, .int a1] s (fun v175 s174 => ((v175 = (0 : Int32)) → calI PP 20 16 [.ref 0, .int a2] s174 (fun v181 s180 => ((v181 = (0 : Int32)) → calI PP 32 16 [.ref 0, .int a1, .int a2, .int (0 : Int32)] s180 (fun v187 s186 => wpcI PP 7 cm7 16 40 [some (.ref 0), some (.int a1), some (.int a2), none, some (.int (a3 &&& (65535 : Int32))), some (.int v187), some (.int (0 : Int32))] [] s186 Q)) ∧ (¬ (v181 = (0 : Int32)) → Q (-3 : Int32) s180))) ∧ (¬ (v175 = (0 : Int32)) → Q (-2 : Int32) s174))) : calI PP 7 16 [.ref 0, .int a1, .int a2, .int a3] s Q := by
  refine cal_of (me := cm7) (ls := [some (.ref 0), some (.int a1), some (.int a2), some (.int a3), none, none, none]) rfl (Nat.le_of_ble_eq_true rfl) rfl ?_
  refine wpc_sl (n := 2) (c' := 16) (pc' := 2) (ls' := [some (.ref 0), some (.int a1), some (.int a2), some (.int a3), none, none, none]) (st' := [.int a1, .ref 0]) (s' := s) rfl ?_
  refine wpc_callI (m' := 19) (me' := cm19) (as := [.int a1]) (r := []) rfl rfl rfl rfl rfl ⟨by decide, (by first | decide | exact Nat.le_of_ble_eq_true rfl), (by first | decide | exact Nat.le_of_ble_eq_true rfl), rfl⟩ (calI.mono h fun v175 s174 h176 => ?_)
  refine wpc_if (a := 11) (b := 8) rfl (by decide) rfl rfl (wpc_br (p := v175 = (0 : Int32)) ⟨fun hc177 => ?_, fun hc177 => ?_⟩)
  · have h178 := h176.1 hc177
    refine wpc_sl (n := 2) (c' := 16) (pc' := 13) (ls' := [some (.ref 0), some (.int a1), some (.int a2), some (.int a3), none, none, none]) (st' := [.int a2, .ref 0]) (s' := s174) rfl ?_
    refine wpc_callI (m' := 20) (me' := cm20) (as := [.int a2]) (r := []) rfl rfl rfl rfl rfl ⟨by decide, (by first | decide | exact Nat.le_of_ble_eq_true rfl), (by first | decide | exact Nat.le_of_ble_eq_true rfl), rfl⟩ (calI.mono h178 fun v181 s180 h182 => ?_)
    refine wpc_if (a := 22) (b := 19) rfl (by decide) rfl rfl (wpc_br (p := v181 = (0 : Int32)) ⟨fun hc183 => ?_, fun hc183 => ?_⟩)
    · have h184 := h182.1 hc183
      refine wpc_sl (n := 8) (c' := 16) (pc' := 32) (ls' := [some (.ref 0), some (.int a1), some (.int a2), some (.int a3), some (.int (a3 &&& (65535 : Int32))), none, none]) (st' := [.int (0 : Int32), .int a2, .int a1, .ref 0]) (s' := s180) rfl ?_
      refine wpc_callI (m' := 32) (me' := cm32) (as := [.int a1, .int a2, .int (0 : Int32)]) (r := []) rfl rfl rfl rfl rfl ⟨by decide, (by first | decide | exact Nat.le_of_ble_eq_true rfl), (by first | decide | exact Nat.le_of_ble_eq_true rfl), rfl⟩ (calI.mono h184 fun v187 s186 h188 => ?_)
      refine wpc_sl (n := 3) (c' := 16) (pc' := 40) (ls' := [some (.ref 0), some (.int a1), some (.int a2), some (.int a3), some (.int (a3 &&& (65535 : Int32))), some (.int v187), some (.int (0 : Int32))]) (st' := []) (s' := s186) rfl ?_
      exact wpc_lle (ls := [some (.ref 0), some (.int a1), some (.int a2), none, some (.int (a3 &&& (65535 : Int32))), some (.int v187), some (.int (0 : Int32))]) ⟨rfl, rfl, rfl, rfl, rfl, rfl, trivial⟩ h188
    · have h185 := h182.2 hc183
      refine wpc_sl (n := 1) (c' := 16) (pc' := 21) (ls' := [some (.ref 0), some (.int a1), some (.int a2), some (.int a3), none, none, none]) (st' := [.int (-3 : Int32)]) (s' := s180) rfl ?_
      exact wpc_ret rfl rfl (fun q => absurd q (by decide)) rfl ⟨(-3 : Int32), rfl, h185⟩
  · have h179 := h176.2 hc177
    refine wpc_sl (n := 1) (c' := 16) (pc' := 10) (ls' := [some (.ref 0), some (.int a1), some (.int a2), some (.int a3), none, none, none]) (st' := [.int (-2 : Int32)]) (s' := s174) rfl ?_
    exact wpc_ret rfl rfl (fun q => absurd q (by decide)) rfl ⟨(-2 : Int32), rfl, h179⟩
theorem c7_40 (x1 : Int32) (x2 : Int32) (x4 : Int32) (x5 : Int32) (x6 : Int32) (s : St) (Q : Int32 → St → Prop) (h : ((x6 < (4 : Int32)) → calV PP 25 16 [.ref 0, .int x5, .int x2, .int x6, .int x4] s (fun s192 => wpcI PP 7 cm7 16 40 [some (.ref 0), some (.int x1), some (.int x2), none, some (.int x4), some (.int x5), some (.int (x6 + (1 : Int32)))] [] s192 Q)) ∧ (¬ (x6 < (4 : Int32)) → calV PP 28 16 [.ref 0, .int x5] s (fun s195 => calV PP 29 16 [.ref 0, .int x5] s195 (fun s198 => inb 32 x2 ∧ inb 4 x1 ∧ inb 4 x1 ∧ Q (0 : Int32) (sI (sI s198 2 (ix x2) (0 : Int32)) 15 (ix x1) ((gI s198 15 (ix x1)) + (1 : Int32))))))) : wpcI PP 7 cm7 16 40 [some (.ref 0), some (.int x1), some (.int x2), none, some (.int x4), some (.int x5), some (.int x6)] [] s Q := by
  refine wpc_sl (n := 2) (c' := 16) (pc' := 43) (ls' := [some (.ref 0), some (.int x1), some (.int x2), none, some (.int x4), some (.int x5), some (.int x6)]) (st' := [.int (4 : Int32), .int x6]) (s' := s) rfl ?_
  refine wpc_icmp (a := 63) (b := 46) rfl (by decide) rfl rfl (wpc_br (p := x6 < (4 : Int32)) ⟨fun hc189 => ?_, fun hc189 => ?_⟩)
  · have h190 := h.1 hc189
    refine wpc_sl (n := 5) (c' := 16) (pc' := 54) (ls' := [some (.ref 0), some (.int x1), some (.int x2), none, some (.int x4), some (.int x5), some (.int x6)]) (st' := [.int x4, .int x6, .int x2, .int x5, .ref 0]) (s' := s) rfl ?_
    refine wpc_callV (m' := 25) (me' := cm25) (as := [.int x5, .int x2, .int x6, .int x4]) (r := []) rfl rfl rfl rfl rfl ⟨by decide, (by first | decide | exact Nat.le_of_ble_eq_true rfl), (by first | decide | exact Nat.le_of_ble_eq_true rfl), rfl⟩ (calV.mono h190 fun s192 h194 => ?_)
    refine wpc_sl (n := 2) (c' := 16) (pc' := 40) (ls' := [some (.ref 0), some (.int x1), some (.int x2), none, some (.int x4), some (.int x5), some (.int (x6 + (1 : Int32)))]) (st' := []) (s' := s192) rfl ?_
    exact h194
  · have h191 := h.2 hc189
    refine wpc_sl (n := 2) (c' := 16) (pc' := 66) (ls' := [some (.ref 0), some (.int x1), some (.int x2), none, some (.int x4), some (.int x5), some (.int x6)]) (st' := [.int x5, .ref 0]) (s' := s) rfl ?_
    refine wpc_callV (m' := 28) (me' := cm28) (as := [.int x5]) (r := []) rfl rfl rfl rfl rfl ⟨by decide, (by first | decide | exact Nat.le_of_ble_eq_true rfl), (by first | decide | exact Nat.le_of_ble_eq_true rfl), rfl⟩ (calV.mono h191 fun s195 h197 => ?_)
    refine wpc_sl (n := 2) (c' := 16) (pc' := 72) (ls' := [some (.ref 0), some (.int x1), some (.int x2), none, some (.int x4), some (.int x5), some (.int x6)]) (st' := [.int x5, .ref 0]) (s' := s195) rfl ?_
    refine wpc_callV (m' := 29) (me' := cm29) (as := [.int x5]) (r := []) rfl rfl rfl rfl rfl ⟨by decide, (by first | decide | exact Nat.le_of_ble_eq_true rfl), (by first | decide | exact Nat.le_of_ble_eq_true rfl), rfl⟩ (calV.mono h197 fun s198 h200 => ?_)
    refine wpc_sl (n := 4) (c' := 16) (pc' := 81) (ls' := [some (.ref 0), some (.int x1), some (.int x2), none, some (.int x4), some (.int x5), some (.int x6)]) (st' := [.int (0 : Int32), .int x2, .ref 2]) (s' := s198) rfl ?_
    refine wpc_staZ (a := 1) (N := 32) (s' := (sI s198 2 (ix x2) (0 : Int32))) rfl rfl (by decide) h200.1 rfl ?_
    have h201 := h200.2
    refine wpc_sl (n := 6) (c' := 16) (pc' := 92) (ls' := [some (.ref 0), some (.int x1), some (.int x2), none, some (.int x4), some (.int x5), some (.int x6)]) (st' := [.int x1, .ref 15, .int x1, .ref 15]) (s' := (sI s198 2 (ix x2) (0 : Int32))) rfl ?_
    refine wpc_ldaI (a := 14) (N := 4) (v := (gI s198 15 (ix x1))) rfl rfl (by decide) h201.1 rfl ?_
    have h202 := h201.2
    refine wpc_sl (n := 2) (c' := 16) (pc' := 95) (ls' := [some (.ref 0), some (.int x1), some (.int x2), none, some (.int x4), some (.int x5), some (.int x6)]) (st' := [.int ((gI s198 15 (ix x1)) + (1 : Int32)), .int x1, .ref 15]) (s' := (sI s198 2 (ix x2) (0 : Int32))) rfl ?_
    refine wpc_staI (a := 14) (N := 4) (s' := (sI (sI s198 2 (ix x2) (0 : Int32)) 15 (ix x1) ((gI s198 15 (ix x1)) + (1 : Int32)))) rfl rfl (by decide) h202.1 rfl ?_
    have h203 := h202.2
    refine wpc_sl (n := 1) (c' := 16) (pc' := 97) (ls' := [some (.ref 0), some (.int x1), some (.int x2), none, some (.int x4), some (.int x5), some (.int x6)]) (st' := [.int (0 : Int32)]) (s' := (sI (sI s198 2 (ix x2) (0 : Int32)) 15 (ix x1) ((gI s198 15 (ix x1)) + (1 : Int32)))) rfl ?_
    exact wpc_ret rfl rfl (fun q => absurd q (by decide)) rfl ⟨(0 : Int32), rfl, h203⟩
theorem c27_in (a1 : Int32) (s : St) (Q : St → Prop) (h : calI PP 22 16 [.ref 0, .int a1] s (fun v518 s517 => ((v518 = (0 : Int32)) → Q s517) ∧ (¬ (v518 = (0 : Int32)) → inb 8 a1 ∧ Q (sI s517 6 (ix a1) (1 : Int32))))) : calV PP 27 16 [.ref 0, .int a1] s Q := by
  refine cal_of (me := cm27) (ls := [some (.ref 0), some (.int a1)]) rfl (Nat.le_of_ble_eq_true rfl) rfl ?_
  refine wpc_sl (n := 2) (c' := 16) (pc' := 2) (ls' := [some (.ref 0), some (.int a1)]) (st' := [.int a1, .ref 0]) (s' := s) rfl ?_
  refine wpc_callI (m' := 22) (me' := cm22) (as := [.int a1]) (r := []) rfl rfl rfl rfl rfl ⟨by decide, (by first | decide | exact Nat.le_of_ble_eq_true rfl), (by first | decide | exact Nat.le_of_ble_eq_true rfl), rfl⟩ (calI.mono h fun v518 s517 h519 => ?_)
  refine wpc_if (a := 15) (b := 8) rfl (by decide) rfl rfl (wpc_br (p := v518 = (0 : Int32)) ⟨fun hc520 => ?_, fun hc520 => ?_⟩)
  · have h521 := h519.1 hc520
    exact wpc_ret rfl rfl (fun q => absurd q (by decide)) rfl ⟨rfl, h521⟩
  · have h522 := h519.2 hc520
    refine wpc_sl (n := 4) (c' := 16) (pc' := 14) (ls' := [some (.ref 0), some (.int a1)]) (st' := [.int (1 : Int32), .int a1, .ref 6]) (s' := s517) rfl ?_
    refine wpc_staZ (a := 5) (N := 8) (s' := (sI s517 6 (ix a1) (1 : Int32))) rfl rfl (by decide) h522.1 rfl ?_
    have h523 := h522.2
    exact wpc_ret rfl rfl (fun q => absurd q (by decide)) rfl ⟨rfl, h523⟩
theorem c24_in (a1 : Int32) (a2 : Int32) (a3 : Int32) (s : St) (Q : Int32 → St → Prop) (h : calI PP 22 16 [.ref 0, .int a1] s (fun v561 s560 => ((v561 = (0 : Int32)) → wpcI PP 24 cm24 16 28 [some (.ref 0), none, some (.int a2), some (.int a3)] [] s560 Q) ∧ (¬ (v561 = (0 : Int32)) → inb 8 a1 ∧ (((gI s560 5 (ix a1)) = (0 : Int32)) → wpcI PP 24 cm24 16 28 [some (.ref 0), none, some (.int a2), some (.int a3)] [] s560 Q) ∧ (¬ ((gI s560 5 (ix a1)) = (0 : Int32)) → inb 32 ((a1 * (4 : Int32)) + a3) ∧ Q (gI s560 3 (ix ((a1 * (4 : Int32)) + a3))) s560)))) : calI PP 24 16 [.ref 0, .int a1, .int a2, .int a3] s Q := by
  refine cal_of (me := cm24) (ls := [some (.ref 0), some (.int a1), some (.int a2), some (.int a3)]) rfl (Nat.le_of_ble_eq_true rfl) rfl ?_
  refine wpc_sl (n := 2) (c' := 16) (pc' := 2) (ls' := [some (.ref 0), some (.int a1), some (.int a2), some (.int a3)]) (st' := [.int a1, .ref 0]) (s' := s) rfl ?_
  refine wpc_callI (m' := 22) (me' := cm22) (as := [.int a1]) (r := []) rfl rfl rfl rfl rfl ⟨by decide, (by first | decide | exact Nat.le_of_ble_eq_true rfl), (by first | decide | exact Nat.le_of_ble_eq_true rfl), rfl⟩ (calI.mono h fun v561 s560 h562 => ?_)
  refine wpc_if (a := 28) (b := 8) rfl (by decide) rfl rfl (wpc_br (p := v561 = (0 : Int32)) ⟨fun hc563 => ?_, fun hc563 => ?_⟩)
  · have h564 := h562.1 hc563
    exact wpc_lle (ls := [some (.ref 0), none, some (.int a2), some (.int a3)]) ⟨rfl, rfl, rfl, trivial⟩ h564
  · have h565 := h562.2 hc563
    refine wpc_sl (n := 3) (c' := 16) (pc' := 13) (ls' := [some (.ref 0), some (.int a1), some (.int a2), some (.int a3)]) (st' := [.int a1, .ref 5]) (s' := s560) rfl ?_
    refine wpc_ldaZ (a := 4) (N := 8) (v := (gI s560 5 (ix a1))) rfl rfl (by decide) h565.1 rfl ?_
    have h566 := h565.2
    refine wpc_if (a := 28) (b := 17) rfl (by decide) rfl rfl (wpc_br (p := (gI s560 5 (ix a1)) = (0 : Int32)) ⟨fun hc567 => ?_, fun hc567 => ?_⟩)
    · have h568 := h566.1 hc567
      exact wpc_lle (ls := [some (.ref 0), none, some (.int a2), some (.int a3)]) ⟨rfl, rfl, rfl, trivial⟩ h568
    · have h569 := h566.2 hc567
      refine wpc_sl (n := 7) (c' := 16) (pc' := 26) (ls' := [some (.ref 0), some (.int a1), some (.int a2), some (.int a3)]) (st' := [.int ((a1 * (4 : Int32)) + a3), .ref 3]) (s' := s560) rfl ?_
      refine wpc_ldaI (a := 2) (N := 32) (v := (gI s560 3 (ix ((a1 * (4 : Int32)) + a3)))) rfl rfl (by decide) h569.1 rfl ?_
      have h570 := h569.2
      exact wpc_ret rfl rfl (fun q => absurd q (by decide)) rfl ⟨(gI s560 3 (ix ((a1 * (4 : Int32)) + a3))), rfl, h570⟩
theorem c24_28 (x2 : Int32) (x3 : Int32) (s : St) (Q : Int32 → St → Prop) (h : inb 128 ((x2 * (4 : Int32)) + x3) ∧ Q (gI s 1 (ix ((x2 * (4 : Int32)) + x3))) s) : wpcI PP 24 cm24 16 28 [some (.ref 0), none, some (.int x2), some (.int x3)] [] s Q := by
  refine wpc_sl (n := 7) (c' := 16) (pc' := 37) (ls' := [some (.ref 0), none, some (.int x2), some (.int x3)]) (st' := [.int ((x2 * (4 : Int32)) + x3), .ref 1]) (s' := s) rfl ?_
  refine wpc_ldaI (a := 0) (N := 128) (v := (gI s 1 (ix ((x2 * (4 : Int32)) + x3)))) rfl rfl (by decide) h.1 rfl ?_
  have h571 := h.2
  exact wpc_ret rfl rfl (fun q => absurd q (by decide)) rfl ⟨(gI s 1 (ix ((x2 * (4 : Int32)) + x3))), rfl, h571⟩
theorem c23_in (a1 : Int32) (a2 : Int32) (a3 : Int32) (a4 : Int32) (s : St) (Q : St → Prop) (h : calI PP 24 16 [.ref 0, .int a2, .int a3, .int (0 : Int32)] s (fun v525 s524 => calI PP 24 16 [.ref 0, .int a2, .int a3, .int (1 : Int32)] s524 (fun v528 s527 => calI PP 24 16 [.ref 0, .int a2, .int a3, .int (2 : Int32)] s527 (fun v531 s530 => calI PP 24 16 [.ref 0, .int a2, .int a3, .int (3 : Int32)] s530 (fun v534 s533 => calI PP 32 16 [.ref 0, .int a1, .int a4, .int (0 : Int32)] s533 (fun v537 s536 => calV PP 25 16 [.ref 0, .int v537, .int a4, .int (0 : Int32), .int v525] s536 (fun s539 => calV PP 25 16 [.ref 0, .int v537, .int a4, .int (1 : Int32), .int v528] s539 (fun s542 => calV PP 25 16 [.ref 0, .int v537, .int a4, .int (2 : Int32), .int v531] s542 (fun s545 => calV PP 25 16 [.ref 0, .int v537, .int a4, .int (3 : Int32), .int v534] s545 (fun s548 => calV PP 28 16 [.ref 0, .int v537] s548 (fun s551 => calV PP 29 16 [.ref 0, .int v537] s551 (fun s554 => calV PP 29 16 [.ref 0, .int a2] s554 (fun s557 => Q s557))))))))))))) : calV PP 23 16 [.ref 0, .int a1, .int a2, .int a3, .int a4] s Q := by
  refine cal_of (me := cm23) (ls := [some (.ref 0), some (.int a1), some (.int a2), some (.int a3), some (.int a4), none, none, none, none, none]) rfl (Nat.le_of_ble_eq_true rfl) rfl ?_
  refine wpc_sl (n := 4) (c' := 16) (pc' := 4) (ls' := [some (.ref 0), some (.int a1), some (.int a2), some (.int a3), some (.int a4), none, none, none, none, none]) (st' := [.int (0 : Int32), .int a3, .int a2, .ref 0]) (s' := s) rfl ?_
  refine wpc_callI (m' := 24) (me' := cm24) (as := [.int a2, .int a3, .int (0 : Int32)]) (r := []) rfl rfl rfl rfl rfl ⟨by decide, (by first | decide | exact Nat.le_of_ble_eq_true rfl), (by first | decide | exact Nat.le_of_ble_eq_true rfl), rfl⟩ (calI.mono h fun v525 s524 h526 => ?_)
  refine wpc_sl (n := 5) (c' := 16) (pc' := 13) (ls' := [some (.ref 0), some (.int a1), some (.int a2), some (.int a3), some (.int a4), some (.int v525), none, none, none, none]) (st' := [.int (1 : Int32), .int a3, .int a2, .ref 0]) (s' := s524) rfl ?_
  refine wpc_callI (m' := 24) (me' := cm24) (as := [.int a2, .int a3, .int (1 : Int32)]) (r := []) rfl rfl rfl rfl rfl ⟨by decide, (by first | decide | exact Nat.le_of_ble_eq_true rfl), (by first | decide | exact Nat.le_of_ble_eq_true rfl), rfl⟩ (calI.mono h526 fun v528 s527 h529 => ?_)
  refine wpc_sl (n := 5) (c' := 16) (pc' := 22) (ls' := [some (.ref 0), some (.int a1), some (.int a2), some (.int a3), some (.int a4), some (.int v525), some (.int v528), none, none, none]) (st' := [.int (2 : Int32), .int a3, .int a2, .ref 0]) (s' := s527) rfl ?_
  refine wpc_callI (m' := 24) (me' := cm24) (as := [.int a2, .int a3, .int (2 : Int32)]) (r := []) rfl rfl rfl rfl rfl ⟨by decide, (by first | decide | exact Nat.le_of_ble_eq_true rfl), (by first | decide | exact Nat.le_of_ble_eq_true rfl), rfl⟩ (calI.mono h529 fun v531 s530 h532 => ?_)
  refine wpc_sl (n := 5) (c' := 16) (pc' := 31) (ls' := [some (.ref 0), some (.int a1), some (.int a2), some (.int a3), some (.int a4), some (.int v525), some (.int v528), some (.int v531), none, none]) (st' := [.int (3 : Int32), .int a3, .int a2, .ref 0]) (s' := s530) rfl ?_
  refine wpc_callI (m' := 24) (me' := cm24) (as := [.int a2, .int a3, .int (3 : Int32)]) (r := []) rfl rfl rfl rfl rfl ⟨by decide, (by first | decide | exact Nat.le_of_ble_eq_true rfl), (by first | decide | exact Nat.le_of_ble_eq_true rfl), rfl⟩ (calI.mono h532 fun v534 s533 h535 => ?_)
  refine wpc_sl (n := 5) (c' := 16) (pc' := 41) (ls' := [some (.ref 0), some (.int a1), some (.int a2), some (.int a3), some (.int a4), some (.int v525), some (.int v528), some (.int v531), some (.int v534), none]) (st' := [.int (0 : Int32), .int a4, .int a1, .ref 0]) (s' := s533) rfl ?_
  refine wpc_callI (m' := 32) (me' := cm32) (as := [.int a1, .int a4, .int (0 : Int32)]) (r := []) rfl rfl rfl rfl rfl ⟨by decide, (by first | decide | exact Nat.le_of_ble_eq_true rfl), (by first | decide | exact Nat.le_of_ble_eq_true rfl), rfl⟩ (calI.mono h535 fun v537 s536 h538 => ?_)
  refine wpc_sl (n := 6) (c' := 16) (pc' := 54) (ls' := [some (.ref 0), some (.int a1), some (.int a2), some (.int a3), some (.int a4), some (.int v525), some (.int v528), some (.int v531), some (.int v534), some (.int v537)]) (st' := [.int v525, .int (0 : Int32), .int a4, .int v537, .ref 0]) (s' := s536) rfl ?_
  refine wpc_callV (m' := 25) (me' := cm25) (as := [.int v537, .int a4, .int (0 : Int32), .int v525]) (r := []) rfl rfl rfl rfl rfl ⟨by decide, (by first | decide | exact Nat.le_of_ble_eq_true rfl), (by first | decide | exact Nat.le_of_ble_eq_true rfl), rfl⟩ (calV.mono h538 fun s539 h541 => ?_)
  refine wpc_sl (n := 5) (c' := 16) (pc' := 65) (ls' := [some (.ref 0), some (.int a1), some (.int a2), some (.int a3), some (.int a4), some (.int v525), some (.int v528), some (.int v531), some (.int v534), some (.int v537)]) (st' := [.int v528, .int (1 : Int32), .int a4, .int v537, .ref 0]) (s' := s539) rfl ?_
  refine wpc_callV (m' := 25) (me' := cm25) (as := [.int v537, .int a4, .int (1 : Int32), .int v528]) (r := []) rfl rfl rfl rfl rfl ⟨by decide, (by first | decide | exact Nat.le_of_ble_eq_true rfl), (by first | decide | exact Nat.le_of_ble_eq_true rfl), rfl⟩ (calV.mono h541 fun s542 h544 => ?_)
  refine wpc_sl (n := 5) (c' := 16) (pc' := 76) (ls' := [some (.ref 0), some (.int a1), some (.int a2), some (.int a3), some (.int a4), some (.int v525), some (.int v528), some (.int v531), some (.int v534), some (.int v537)]) (st' := [.int v531, .int (2 : Int32), .int a4, .int v537, .ref 0]) (s' := s542) rfl ?_
  refine wpc_callV (m' := 25) (me' := cm25) (as := [.int v537, .int a4, .int (2 : Int32), .int v531]) (r := []) rfl rfl rfl rfl rfl ⟨by decide, (by first | decide | exact Nat.le_of_ble_eq_true rfl), (by first | decide | exact Nat.le_of_ble_eq_true rfl), rfl⟩ (calV.mono h544 fun s545 h547 => ?_)
  refine wpc_sl (n := 5) (c' := 16) (pc' := 87) (ls' := [some (.ref 0), some (.int a1), some (.int a2), some (.int a3), some (.int a4), some (.int v525), some (.int v528), some (.int v531), some (.int v534), some (.int v537)]) (st' := [.int v534, .int (3 : Int32), .int a4, .int v537, .ref 0]) (s' := s545) rfl ?_
  refine wpc_callV (m' := 25) (me' := cm25) (as := [.int v537, .int a4, .int (3 : Int32), .int v534]) (r := []) rfl rfl rfl rfl rfl ⟨by decide, (by first | decide | exact Nat.le_of_ble_eq_true rfl), (by first | decide | exact Nat.le_of_ble_eq_true rfl), rfl⟩ (calV.mono h547 fun s548 h550 => ?_)
  refine wpc_sl (n := 2) (c' := 16) (pc' := 93) (ls' := [some (.ref 0), some (.int a1), some (.int a2), some (.int a3), some (.int a4), some (.int v525), some (.int v528), some (.int v531), some (.int v534), some (.int v537)]) (st' := [.int v537, .ref 0]) (s' := s548) rfl ?_
  refine wpc_callV (m' := 28) (me' := cm28) (as := [.int v537]) (r := []) rfl rfl rfl rfl rfl ⟨by decide, (by first | decide | exact Nat.le_of_ble_eq_true rfl), (by first | decide | exact Nat.le_of_ble_eq_true rfl), rfl⟩ (calV.mono h550 fun s551 h553 => ?_)
  refine wpc_sl (n := 2) (c' := 16) (pc' := 99) (ls' := [some (.ref 0), some (.int a1), some (.int a2), some (.int a3), some (.int a4), some (.int v525), some (.int v528), some (.int v531), some (.int v534), some (.int v537)]) (st' := [.int v537, .ref 0]) (s' := s551) rfl ?_
  refine wpc_callV (m' := 29) (me' := cm29) (as := [.int v537]) (r := []) rfl rfl rfl rfl rfl ⟨by decide, (by first | decide | exact Nat.le_of_ble_eq_true rfl), (by first | decide | exact Nat.le_of_ble_eq_true rfl), rfl⟩ (calV.mono h553 fun s554 h556 => ?_)
  refine wpc_sl (n := 2) (c' := 16) (pc' := 104) (ls' := [some (.ref 0), some (.int a1), some (.int a2), some (.int a3), some (.int a4), some (.int v525), some (.int v528), some (.int v531), some (.int v534), some (.int v537)]) (st' := [.int a2, .ref 0]) (s' := s554) rfl ?_
  refine wpc_callV (m' := 29) (me' := cm29) (as := [.int a2]) (r := []) rfl rfl rfl rfl rfl ⟨by decide, (by first | decide | exact Nat.le_of_ble_eq_true rfl), (by first | decide | exact Nat.le_of_ble_eq_true rfl), rfl⟩ (calV.mono h556 fun s557 h559 => ?_)
  exact wpc_ret rfl rfl (fun q => absurd q (by decide)) rfl ⟨rfl, h559⟩
theorem c8_in (a1 : Int32) (a2 : Int32) (a3 : Int32) (s : St) (Q : Int32 → St → Prop) (h : calI PP 19 16 [.ref 0, .int a1] s (fun v480 s479 => ((v480 = (0 : Int32)) → calI PP 20 16 [.ref 0, .int a2] s479 (fun v486 s485 => ((v486 = (0 : Int32)) → calI PP 20 16 [.ref 0, .int a3] s485 (fun v492 s491 => ((v492 = (0 : Int32)) → calI PP 32 16 [.ref 0, .int a1, .int a2, .int (1 : Int32)] s491 (fun v498 s497 => ((a2 = a3) → calV PP 27 16 [.ref 0, .int v498] s497 (fun s503 => calV PP 29 16 [.ref 0, .int v498] s503 (fun s506 => wpcI PP 8 cm8 16 71 [some (.ref 0), some (.int a1), none, some (.int a3), none] [] s506 Q))) ∧ (¬ (a2 = a3) → calV PP 23 16 [.ref 0, .int a1, .int v498, .int a2, .int a3] s497 (fun s509 => wpcI PP 8 cm8 16 71 [some (.ref 0), some (.int a1), none, some (.int a3), none] [] s509 Q)))) ∧ (¬ (v492 = (0 : Int32)) → Q (-3 : Int32) s491))) ∧ (¬ (v486 = (0 : Int32)) → Q (-3 : Int32) s485))) ∧ (¬ (v480 = (0 : Int32)) → Q (-2 : Int32) s479))) : calI PP 8 16 [.ref 0, .int a1, .int a2, .int a3] s Q := by
  refine cal_of (me := cm8) (ls := [some (.ref 0), some (.int a1), some (.int a2), some (.int a3), none]) rfl (Nat.le_of_ble_eq_true rfl) rfl ?_
  refine wpc_sl (n := 2) (c' := 16) (pc' := 2) (ls' := [some (.ref 0), some (.int a1), some (.int a2), some (.int a3), none]) (st' := [.int a1, .ref 0]) (s' := s) rfl ?_
  refine wpc_callI (m' := 19) (me' := cm19) (as := [.int a1]) (r := []) rfl rfl rfl rfl rfl ⟨by decide, (by first | decide | exact Nat.le_of_ble_eq_true rfl), (by first | decide | exact Nat.le_of_ble_eq_true rfl), rfl⟩ (calI.mono h fun v480 s479 h481 => ?_)
  refine wpc_if (a := 11) (b := 8) rfl (by decide) rfl rfl (wpc_br (p := v480 = (0 : Int32)) ⟨fun hc482 => ?_, fun hc482 => ?_⟩)
  · have h483 := h481.1 hc482
    refine wpc_sl (n := 2) (c' := 16) (pc' := 13) (ls' := [some (.ref 0), some (.int a1), some (.int a2), some (.int a3), none]) (st' := [.int a2, .ref 0]) (s' := s479) rfl ?_
    refine wpc_callI (m' := 20) (me' := cm20) (as := [.int a2]) (r := []) rfl rfl rfl rfl rfl ⟨by decide, (by first | decide | exact Nat.le_of_ble_eq_true rfl), (by first | decide | exact Nat.le_of_ble_eq_true rfl), rfl⟩ (calI.mono h483 fun v486 s485 h487 => ?_)
    refine wpc_if (a := 22) (b := 19) rfl (by decide) rfl rfl (wpc_br (p := v486 = (0 : Int32)) ⟨fun hc488 => ?_, fun hc488 => ?_⟩)
    · have h489 := h487.1 hc488
      refine wpc_sl (n := 2) (c' := 16) (pc' := 24) (ls' := [some (.ref 0), some (.int a1), some (.int a2), some (.int a3), none]) (st' := [.int a3, .ref 0]) (s' := s485) rfl ?_
      refine wpc_callI (m' := 20) (me' := cm20) (as := [.int a3]) (r := []) rfl rfl rfl rfl rfl ⟨by decide, (by first | decide | exact Nat.le_of_ble_eq_true rfl), (by first | decide | exact Nat.le_of_ble_eq_true rfl), rfl⟩ (calI.mono h489 fun v492 s491 h493 => ?_)
      refine wpc_if (a := 33) (b := 30) rfl (by decide) rfl rfl (wpc_br (p := v492 = (0 : Int32)) ⟨fun hc494 => ?_, fun hc494 => ?_⟩)
      · have h495 := h493.1 hc494
        refine wpc_sl (n := 4) (c' := 16) (pc' := 37) (ls' := [some (.ref 0), some (.int a1), some (.int a2), some (.int a3), none]) (st' := [.int (1 : Int32), .int a2, .int a1, .ref 0]) (s' := s491) rfl ?_
        refine wpc_callI (m' := 32) (me' := cm32) (as := [.int a1, .int a2, .int (1 : Int32)]) (r := []) rfl rfl rfl rfl rfl ⟨by decide, (by first | decide | exact Nat.le_of_ble_eq_true rfl), (by first | decide | exact Nat.le_of_ble_eq_true rfl), rfl⟩ (calI.mono h495 fun v498 s497 h499 => ?_)
        refine wpc_sl (n := 3) (c' := 16) (pc' := 44) (ls' := [some (.ref 0), some (.int a1), some (.int a2), some (.int a3), some (.int v498)]) (st' := [.int a3, .int a2]) (s' := s497) rfl ?_
        refine wpc_icmp (a := 62) (b := 47) rfl (by decide) rfl rfl (wpc_br (p := a2 = a3) ⟨fun hc500 => ?_, fun hc500 => ?_⟩)
        · have h501 := h499.1 hc500
          refine wpc_sl (n := 2) (c' := 16) (pc' := 50) (ls' := [some (.ref 0), some (.int a1), some (.int a2), some (.int a3), some (.int v498)]) (st' := [.int v498, .ref 0]) (s' := s497) rfl ?_
          refine wpc_callV (m' := 27) (me' := cm27) (as := [.int v498]) (r := []) rfl rfl rfl rfl rfl ⟨by decide, (by first | decide | exact Nat.le_of_ble_eq_true rfl), (by first | decide | exact Nat.le_of_ble_eq_true rfl), rfl⟩ (calV.mono h501 fun s503 h505 => ?_)
          refine wpc_sl (n := 2) (c' := 16) (pc' := 56) (ls' := [some (.ref 0), some (.int a1), some (.int a2), some (.int a3), some (.int v498)]) (st' := [.int v498, .ref 0]) (s' := s503) rfl ?_
          refine wpc_callV (m' := 29) (me' := cm29) (as := [.int v498]) (r := []) rfl rfl rfl rfl rfl ⟨by decide, (by first | decide | exact Nat.le_of_ble_eq_true rfl), (by first | decide | exact Nat.le_of_ble_eq_true rfl), rfl⟩ (calV.mono h505 fun s506 h508 => ?_)
          refine wpc_sl (n := 1) (c' := 16) (pc' := 71) (ls' := [some (.ref 0), some (.int a1), some (.int a2), some (.int a3), some (.int v498)]) (st' := []) (s' := s506) rfl ?_
          exact wpc_lle (ls := [some (.ref 0), some (.int a1), none, some (.int a3), none]) ⟨rfl, rfl, rfl, trivial⟩ h508
        · have h502 := h499.2 hc500
          refine wpc_sl (n := 5) (c' := 16) (pc' := 68) (ls' := [some (.ref 0), some (.int a1), some (.int a2), some (.int a3), some (.int v498)]) (st' := [.int a3, .int a2, .int v498, .int a1, .ref 0]) (s' := s497) rfl ?_
          refine wpc_callV (m' := 23) (me' := cm23) (as := [.int a1, .int v498, .int a2, .int a3]) (r := []) rfl rfl rfl rfl rfl ⟨by decide, (by first | decide | exact Nat.le_of_ble_eq_true rfl), (by first | decide | exact Nat.le_of_ble_eq_true rfl), rfl⟩ (calV.mono h502 fun s509 h511 => ?_)
          exact wpc_lle (ls := [some (.ref 0), some (.int a1), none, some (.int a3), none]) ⟨rfl, rfl, rfl, trivial⟩ h511
      · have h496 := h493.2 hc494
        refine wpc_sl (n := 1) (c' := 16) (pc' := 32) (ls' := [some (.ref 0), some (.int a1), some (.int a2), some (.int a3), none]) (st' := [.int (-3 : Int32)]) (s' := s491) rfl ?_
        exact wpc_ret rfl rfl (fun q => absurd q (by decide)) rfl ⟨(-3 : Int32), rfl, h496⟩
    · have h490 := h487.2 hc488
      refine wpc_sl (n := 1) (c' := 16) (pc' := 21) (ls' := [some (.ref 0), some (.int a1), some (.int a2), some (.int a3), none]) (st' := [.int (-3 : Int32)]) (s' := s485) rfl ?_
      exact wpc_ret rfl rfl (fun q => absurd q (by decide)) rfl ⟨(-3 : Int32), rfl, h490⟩
  · have h484 := h481.2 hc482
    refine wpc_sl (n := 1) (c' := 16) (pc' := 10) (ls' := [some (.ref 0), some (.int a1), some (.int a2), some (.int a3), none]) (st' := [.int (-2 : Int32)]) (s' := s479) rfl ?_
    exact wpc_ret rfl rfl (fun q => absurd q (by decide)) rfl ⟨(-2 : Int32), rfl, h484⟩
theorem c8_71 (x1 : Int32) (x3 : Int32) (s : St) (Q : Int32 → St → Prop) (h : inb 32 x3 ∧ inb 4 x1 ∧ inb 4 x1 ∧ inb 4 x1 ∧ inb 4 x1 ∧ Q (0 : Int32) (sI (sI (sI s 2 (ix x3) (0 : Int32)) 14 (ix x1) ((gI s 14 (ix x1)) + (1 : Int32))) 15 (ix x1) ((gI s 15 (ix x1)) + (1 : Int32)))) : wpcI PP 8 cm8 16 71 [some (.ref 0), some (.int x1), none, some (.int x3), none] [] s Q := by
  refine wpc_sl (n := 4) (c' := 16) (pc' := 77) (ls' := [some (.ref 0), some (.int x1), none, some (.int x3), none]) (st' := [.int (0 : Int32), .int x3, .ref 2]) (s' := s) rfl ?_
  refine wpc_staZ (a := 1) (N := 32) (s' := (sI s 2 (ix x3) (0 : Int32))) rfl rfl (by decide) h.1 rfl ?_
  have h512 := h.2
  refine wpc_sl (n := 6) (c' := 16) (pc' := 88) (ls' := [some (.ref 0), some (.int x1), none, some (.int x3), none]) (st' := [.int x1, .ref 14, .int x1, .ref 14]) (s' := (sI s 2 (ix x3) (0 : Int32))) rfl ?_
  refine wpc_ldaI (a := 13) (N := 4) (v := (gI s 14 (ix x1))) rfl rfl (by decide) h512.1 rfl ?_
  have h513 := h512.2
  refine wpc_sl (n := 2) (c' := 16) (pc' := 91) (ls' := [some (.ref 0), some (.int x1), none, some (.int x3), none]) (st' := [.int ((gI s 14 (ix x1)) + (1 : Int32)), .int x1, .ref 14]) (s' := (sI s 2 (ix x3) (0 : Int32))) rfl ?_
  refine wpc_staI (a := 13) (N := 4) (s' := (sI (sI s 2 (ix x3) (0 : Int32)) 14 (ix x1) ((gI s 14 (ix x1)) + (1 : Int32)))) rfl rfl (by decide) h513.1 rfl ?_
  have h514 := h513.2
  refine wpc_sl (n := 6) (c' := 16) (pc' := 102) (ls' := [some (.ref 0), some (.int x1), none, some (.int x3), none]) (st' := [.int x1, .ref 15, .int x1, .ref 15]) (s' := (sI (sI s 2 (ix x3) (0 : Int32)) 14 (ix x1) ((gI s 14 (ix x1)) + (1 : Int32)))) rfl ?_
  refine wpc_ldaI (a := 14) (N := 4) (v := (gI s 15 (ix x1))) rfl rfl (by decide) h514.1 rfl ?_
  have h515 := h514.2
  refine wpc_sl (n := 2) (c' := 16) (pc' := 105) (ls' := [some (.ref 0), some (.int x1), none, some (.int x3), none]) (st' := [.int ((gI s 15 (ix x1)) + (1 : Int32)), .int x1, .ref 15]) (s' := (sI (sI s 2 (ix x3) (0 : Int32)) 14 (ix x1) ((gI s 14 (ix x1)) + (1 : Int32)))) rfl ?_
  refine wpc_staI (a := 14) (N := 4) (s' := (sI (sI (sI s 2 (ix x3) (0 : Int32)) 14 (ix x1) ((gI s 14 (ix x1)) + (1 : Int32))) 15 (ix x1) ((gI s 15 (ix x1)) + (1 : Int32)))) rfl rfl (by decide) h515.1 rfl ?_
  have h516 := h515.2
  refine wpc_sl (n := 1) (c' := 16) (pc' := 107) (ls' := [some (.ref 0), some (.int x1), none, some (.int x3), none]) (st' := [.int (0 : Int32)]) (s' := (sI (sI (sI s 2 (ix x3) (0 : Int32)) 14 (ix x1) ((gI s 14 (ix x1)) + (1 : Int32))) 15 (ix x1) ((gI s 15 (ix x1)) + (1 : Int32)))) rfl ?_
  exact wpc_ret rfl rfl (fun q => absurd q (by decide)) rfl ⟨(0 : Int32), rfl, h516⟩
theorem c9_in (a1 : Int32) (s : St) (Q : St → Prop) (h : calI PP 18 16 [.ref 0, .int a1, .int (0 : Int32), .int (64 : Int32)] s (fun v573 s572 => wpcV PP 9 cm9 16 11 [some (.ref 0), none, some (.int v573), some (.int (0 : Int32))] [] s572 Q)) : calV PP 9 16 [.ref 0, .int a1] s Q := by
  refine cal_of (me := cm9) (ls := [some (.ref 0), some (.int a1), none, none]) rfl (Nat.le_of_ble_eq_true rfl) rfl ?_
  refine wpc_sl (n := 4) (c' := 16) (pc' := 5) (ls' := [some (.ref 0), some (.int a1), none, none]) (st' := [.int (64 : Int32), .int (0 : Int32), .int a1, .ref 0]) (s' := s) rfl ?_
  refine wpc_callI (m' := 18) (me' := cm18) (as := [.int a1, .int (0 : Int32), .int (64 : Int32)]) (r := []) rfl rfl rfl rfl rfl ⟨by decide, (by first | decide | exact Nat.le_of_ble_eq_true rfl), (by first | decide | exact Nat.le_of_ble_eq_true rfl), rfl⟩ (calI.mono h fun v573 s572 h574 => ?_)
  refine wpc_sl (n := 3) (c' := 16) (pc' := 11) (ls' := [some (.ref 0), some (.int a1), some (.int v573), some (.int (0 : Int32))]) (st' := []) (s' := s572) rfl ?_
  exact wpc_lle (ls := [some (.ref 0), none, some (.int v573), some (.int (0 : Int32))]) ⟨rfl, rfl, rfl, trivial⟩ h574
theorem c9_11 (x2 : Int32) (x3 : Int32) (s : St) (Q : St → Prop) (h : ((x3 < x2) → calI PP 40 16 [.ref 0] s (fun v579 s578 => ((v579 = (0 : Int32)) → Q s578) ∧ (¬ (v579 = (0 : Int32)) → wpcV PP 9 cm9 16 11 [some (.ref 0), none, some (.int x2), some (.int (x3 + (1 : Int32)))] [] s578 Q))) ∧ (¬ (x3 < x2) → Q s)) : wpcV PP 9 cm9 16 11 [some (.ref 0), none, some (.int x2), some (.int x3)] [] s Q := by
  refine wpc_sl (n := 2) (c' := 16) (pc' := 13) (ls' := [some (.ref 0), none, some (.int x2), some (.int x3)]) (st' := [.int x2, .int x3]) (s' := s) rfl ?_
  refine wpc_icmp (a := 32) (b := 16) rfl (by decide) rfl rfl (wpc_br (p := x3 < x2) ⟨fun hc575 => ?_, fun hc575 => ?_⟩)
  · have h576 := h.1 hc575
    refine wpc_sl (n := 1) (c' := 16) (pc' := 17) (ls' := [some (.ref 0), none, some (.int x2), some (.int x3)]) (st' := [.ref 0]) (s' := s) rfl ?_
    refine wpc_callI (m' := 40) (me' := cm40) (as := []) (r := []) rfl rfl rfl rfl rfl ⟨by decide, (by first | decide | exact Nat.le_of_ble_eq_true rfl), (by first | decide | exact Nat.le_of_ble_eq_true rfl), rfl⟩ (calI.mono h576 fun v579 s578 h580 => ?_)
    refine wpc_if (a := 26) (b := 23) rfl (by decide) rfl rfl (wpc_br (p := v579 = (0 : Int32)) ⟨fun hc581 => ?_, fun hc581 => ?_⟩)
    · have h582 := h580.1 hc581
      refine wpc_sl (n := 1) (c' := 16) (pc' := 32) (ls' := [some (.ref 0), none, some (.int x2), some (.int x3)]) (st' := []) (s' := s578) rfl ?_
      exact wpc_ret rfl rfl (fun q => absurd q (by decide)) rfl ⟨rfl, h582⟩
    · have h583 := h580.2 hc581
      refine wpc_sl (n := 2) (c' := 16) (pc' := 11) (ls' := [some (.ref 0), none, some (.int x2), some (.int (x3 + (1 : Int32)))]) (st' := []) (s' := s578) rfl ?_
      exact h583
  · have h577 := h.2 hc575
    exact wpc_ret rfl rfl (fun q => absurd q (by decide)) rfl ⟨rfl, h577⟩
theorem c10_in (a1 : Int32) (s : St) (Q : Int32 → St → Prop) (h : calI PP 20 16 [.ref 0, .int a1] s (fun v585 s584 => ((v585 = (0 : Int32)) → calI PP 31 16 [.ref 0, .int a1] s584 (fun v591 s590 => ((v591 < (0 : Int32)) → wpcI PP 10 cm10 16 77 [some (.ref 0), some (.int a1), none] [] s590 Q) ∧ (¬ (v591 < (0 : Int32)) → calV PP 35 16 [.ref 0, .int (-1 : Int32), .int v591] s590 (fun s596 => inb 8 v591 ∧ (((gI s596 6 (ix v591)) = (0 : Int32)) → wpcI PP 10 cm10 16 71 [some (.ref 0), some (.int a1), some (.int v591)] [] s596 Q) ∧ (¬ ((gI s596 6 (ix v591)) = (0 : Int32)) → inb 8 v591 ∧ (((gI s596 5 (ix v591)) = (0 : Int32)) → wpcI PP 10 cm10 16 71 [some (.ref 0), some (.int a1), some (.int v591)] [] s596 Q) ∧ (¬ ((gI s596 5 (ix v591)) = (0 : Int32)) → inb 8 v591 ∧ (((gI s596 7 (ix v591)) = (0 : Int32)) → calI PP 36 16 [.ref 0, .int v591, .int a1, .int (1 : Int32)] s596 (fun v612 s611 => ((v612 = (0 : Int32)) → wpcI PP 10 cm10 16 71 [some (.ref 0), some (.int a1), some (.int v591)] [] s611 Q) ∧ (¬ (v612 = (0 : Int32)) → inb 8 v591 ∧ wpcI PP 10 cm10 16 71 [some (.ref 0), some (.int a1), some (.int v591)] [] (sI s611 7 (ix v591) (1 : Int32)) Q))) ∧ (¬ ((gI s596 7 (ix v591)) = (0 : Int32)) → wpcI PP 10 cm10 16 71 [some (.ref 0), some (.int a1), some (.int v591)] [] s596 Q))))))) ∧ (¬ (v585 = (0 : Int32)) → Q (-3 : Int32) s584))) : calI PP 10 16 [.ref 0, .int a1] s Q := by
  refine cal_of (me := cm10) (ls := [some (.ref 0), some (.int a1), none]) rfl (Nat.le_of_ble_eq_true rfl) rfl ?_
  refine wpc_sl (n := 2) (c' := 16) (pc' := 2) (ls' := [some (.ref 0), some (.int a1), none]) (st' := [.int a1, .ref 0]) (s' := s) rfl ?_
  refine wpc_callI (m' := 20) (me' := cm20) (as := [.int a1]) (r := []) rfl rfl rfl rfl rfl ⟨by decide, (by first | decide | exact Nat.le_of_ble_eq_true rfl), (by first | decide | exact Nat.le_of_ble_eq_true rfl), rfl⟩ (calI.mono h fun v585 s584 h586 => ?_)
  refine wpc_if (a := 11) (b := 8) rfl (by decide) rfl rfl (wpc_br (p := v585 = (0 : Int32)) ⟨fun hc587 => ?_, fun hc587 => ?_⟩)
  · have h588 := h586.1 hc587
    refine wpc_sl (n := 2) (c' := 16) (pc' := 13) (ls' := [some (.ref 0), some (.int a1), none]) (st' := [.int a1, .ref 0]) (s' := s584) rfl ?_
    refine wpc_callI (m' := 31) (me' := cm31) (as := [.int a1]) (r := []) rfl rfl rfl rfl rfl ⟨by decide, (by first | decide | exact Nat.le_of_ble_eq_true rfl), (by first | decide | exact Nat.le_of_ble_eq_true rfl), rfl⟩ (calI.mono h588 fun v591 s590 h592 => ?_)
    refine wpc_sl (n := 2) (c' := 16) (pc' := 18) (ls' := [some (.ref 0), some (.int a1), some (.int v591)]) (st' := [.int v591]) (s' := s590) rfl ?_
    refine wpc_if (a := 77) (b := 21) rfl (by decide) rfl rfl (wpc_br (p := v591 < (0 : Int32)) ⟨fun hc593 => ?_, fun hc593 => ?_⟩)
    · have h594 := h592.1 hc593
      exact wpc_lle (ls := [some (.ref 0), some (.int a1), none]) ⟨rfl, rfl, trivial⟩ h594
    · have h595 := h592.2 hc593
      refine wpc_sl (n := 3) (c' := 16) (pc' := 24) (ls' := [some (.ref 0), some (.int a1), some (.int v591)]) (st' := [.int v591, .int (-1 : Int32), .ref 0]) (s' := s590) rfl ?_
      refine wpc_callV (m' := 35) (me' := cm35) (as := [.int (-1 : Int32), .int v591]) (r := []) rfl rfl rfl rfl rfl ⟨by decide, (by first | decide | exact Nat.le_of_ble_eq_true rfl), (by first | decide | exact Nat.le_of_ble_eq_true rfl), rfl⟩ (calV.mono h595 fun s596 h598 => ?_)
      refine wpc_sl (n := 3) (c' := 16) (pc' := 32) (ls' := [some (.ref 0), some (.int a1), some (.int v591)]) (st' := [.int v591, .ref 6]) (s' := s596) rfl ?_
      refine wpc_ldaZ (a := 5) (N := 8) (v := (gI s596 6 (ix v591))) rfl rfl (by decide) h598.1 rfl ?_
      have h599 := h598.2
      refine wpc_if (a := 71) (b := 36) rfl (by decide) rfl rfl (wpc_br (p := (gI s596 6 (ix v591)) = (0 : Int32)) ⟨fun hc600 => ?_, fun hc600 => ?_⟩)
      · have h601 := h599.1 hc600
        exact h601
      · have h602 := h599.2 hc600
        refine wpc_sl (n := 3) (c' := 16) (pc' := 41) (ls' := [some (.ref 0), some (.int a1), some (.int v591)]) (st' := [.int v591, .ref 5]) (s' := s596) rfl ?_
        refine wpc_ldaZ (a := 4) (N := 8) (v := (gI s596 5 (ix v591))) rfl rfl (by decide) h602.1 rfl ?_
        have h603 := h602.2
        refine wpc_if (a := 71) (b := 45) rfl (by decide) rfl rfl (wpc_br (p := (gI s596 5 (ix v591)) = (0 : Int32)) ⟨fun hc604 => ?_, fun hc604 => ?_⟩)
        · have h605 := h603.1 hc604
          exact h605
        · have h606 := h603.2 hc604
          refine wpc_sl (n := 3) (c' := 16) (pc' := 50) (ls' := [some (.ref 0), some (.int a1), some (.int v591)]) (st' := [.int v591, .ref 7]) (s' := s596) rfl ?_
          refine wpc_ldaZ (a := 6) (N := 8) (v := (gI s596 7 (ix v591))) rfl rfl (by decide) h606.1 rfl ?_
          have h607 := h606.2
          refine wpc_if (a := 71) (b := 54) rfl (by decide) rfl rfl (wpc_br (p := (gI s596 7 (ix v591)) = (0 : Int32)) ⟨fun hc608 => ?_, fun hc608 => ?_⟩)
          · have h609 := h607.1 hc608
            refine wpc_sl (n := 4) (c' := 16) (pc' := 58) (ls' := [some (.ref 0), some (.int a1), some (.int v591)]) (st' := [.int (1 : Int32), .int a1, .int v591, .ref 0]) (s' := s596) rfl ?_
            refine wpc_callI (m' := 36) (me' := cm36) (as := [.int v591, .int a1, .int (1 : Int32)]) (r := []) rfl rfl rfl rfl rfl ⟨by decide, (by first | decide | exact Nat.le_of_ble_eq_true rfl), (by first | decide | exact Nat.le_of_ble_eq_true rfl), rfl⟩ (calI.mono h609 fun v612 s611 h613 => ?_)
            refine wpc_if (a := 71) (b := 64) rfl (by decide) rfl rfl (wpc_br (p := v612 = (0 : Int32)) ⟨fun hc614 => ?_, fun hc614 => ?_⟩)
            · have h615 := h613.1 hc614
              exact h615
            · have h616 := h613.2 hc614
              refine wpc_sl (n := 4) (c' := 16) (pc' := 70) (ls' := [some (.ref 0), some (.int a1), some (.int v591)]) (st' := [.int (1 : Int32), .int v591, .ref 7]) (s' := s611) rfl ?_
              refine wpc_staZ (a := 6) (N := 8) (s' := (sI s611 7 (ix v591) (1 : Int32))) rfl rfl (by decide) h616.1 rfl ?_
              have h617 := h616.2
              exact h617
          · have h610 := h607.2 hc608
            exact h610
  · have h589 := h586.2 hc587
    refine wpc_sl (n := 1) (c' := 16) (pc' := 10) (ls' := [some (.ref 0), some (.int a1), none]) (st' := [.int (-3 : Int32)]) (s' := s584) rfl ?_
    exact wpc_ret rfl rfl (fun q => absurd q (by decide)) rfl ⟨(-3 : Int32), rfl, h589⟩
theorem c10_77 (x1 : Int32) (s : St) (Q : Int32 → St → Prop) (h : inb 32 x1 ∧ Q (0 : Int32) (sI s 2 (ix x1) (1 : Int32))) : wpcI PP 10 cm10 16 77 [some (.ref 0), some (.int x1), none] [] s Q := by
  refine wpc_sl (n := 4) (c' := 16) (pc' := 83) (ls' := [some (.ref 0), some (.int x1), none]) (st' := [.int (1 : Int32), .int x1, .ref 2]) (s' := s) rfl ?_
  refine wpc_staZ (a := 1) (N := 32) (s' := (sI s 2 (ix x1) (1 : Int32))) rfl rfl (by decide) h.1 rfl ?_
  have h618 := h.2
  refine wpc_sl (n := 1) (c' := 16) (pc' := 85) (ls' := [some (.ref 0), some (.int x1), none]) (st' := [.int (0 : Int32)]) (s' := (sI s 2 (ix x1) (1 : Int32))) rfl ?_
  exact wpc_ret rfl rfl (fun q => absurd q (by decide)) rfl ⟨(0 : Int32), rfl, h618⟩
theorem c10_71 (x1 : Int32) (x2 : Int32) (s : St) (Q : Int32 → St → Prop) (h : calV PP 35 16 [.ref 0, .int (-1 : Int32), .int x2] s (fun s619 => wpcI PP 10 cm10 16 77 [some (.ref 0), some (.int x1), none] [] s619 Q)) : wpcI PP 10 cm10 16 71 [some (.ref 0), some (.int x1), some (.int x2)] [] s Q := by
  refine wpc_sl (n := 3) (c' := 16) (pc' := 74) (ls' := [some (.ref 0), some (.int x1), some (.int x2)]) (st' := [.int x2, .int (-1 : Int32), .ref 0]) (s' := s) rfl ?_
  refine wpc_callV (m' := 35) (me' := cm35) (as := [.int (-1 : Int32), .int x2]) (r := []) rfl rfl rfl rfl rfl ⟨by decide, (by first | decide | exact Nat.le_of_ble_eq_true rfl), (by first | decide | exact Nat.le_of_ble_eq_true rfl), rfl⟩ (calV.mono h fun s619 h621 => ?_)
  exact wpc_lle (ls := [some (.ref 0), some (.int x1), none]) ⟨rfl, rfl, trivial⟩ h621
theorem c37_in  (s : St) (Q : St → Prop) (h : wpcV PP 37 cm37 16 2 [some (.ref 0), some (.int (0 : Int32))] [] s Q) : calV PP 37 16 [.ref 0] s Q := by
  refine cal_of (me := cm37) (ls := [some (.ref 0), none]) rfl (Nat.le_of_ble_eq_true rfl) rfl ?_
  refine wpc_sl (n := 2) (c' := 16) (pc' := 2) (ls' := [some (.ref 0), some (.int (0 : Int32))]) (st' := []) (s' := s) rfl ?_
  exact h
theorem c37_2 (x1 : Int32) (s : St) (Q : St → Prop) (h : ((x1 < (64 : Int32)) → calI PP 40 16 [.ref 0] s (fun v659 s658 => ((v659 = (0 : Int32)) → Q s658) ∧ (¬ (v659 = (0 : Int32)) → wpcV PP 37 cm37 16 2 [some (.ref 0), some (.int (x1 + (1 : Int32)))] [] s658 Q))) ∧ (¬ (x1 < (64 : Int32)) → Q s)) : wpcV PP 37 cm37 16 2 [some (.ref 0), some (.int x1)] [] s Q := by
  refine wpc_sl (n := 2) (c' := 16) (pc' := 5) (ls' := [some (.ref 0), some (.int x1)]) (st' := [.int (64 : Int32), .int x1]) (s' := s) rfl ?_
  refine wpc_icmp (a := 24) (b := 8) rfl (by decide) rfl rfl (wpc_br (p := x1 < (64 : Int32)) ⟨fun hc655 => ?_, fun hc655 => ?_⟩)
  · have h656 := h.1 hc655
    refine wpc_sl (n := 1) (c' := 16) (pc' := 9) (ls' := [some (.ref 0), some (.int x1)]) (st' := [.ref 0]) (s' := s) rfl ?_
    refine wpc_callI (m' := 40) (me' := cm40) (as := []) (r := []) rfl rfl rfl rfl rfl ⟨by decide, (by first | decide | exact Nat.le_of_ble_eq_true rfl), (by first | decide | exact Nat.le_of_ble_eq_true rfl), rfl⟩ (calI.mono h656 fun v659 s658 h660 => ?_)
    refine wpc_if (a := 18) (b := 15) rfl (by decide) rfl rfl (wpc_br (p := v659 = (0 : Int32)) ⟨fun hc661 => ?_, fun hc661 => ?_⟩)
    · have h662 := h660.1 hc661
      refine wpc_sl (n := 1) (c' := 16) (pc' := 24) (ls' := [some (.ref 0), some (.int x1)]) (st' := []) (s' := s658) rfl ?_
      exact wpc_ret rfl rfl (fun q => absurd q (by decide)) rfl ⟨rfl, h662⟩
    · have h663 := h660.2 hc661
      refine wpc_sl (n := 2) (c' := 16) (pc' := 2) (ls' := [some (.ref 0), some (.int (x1 + (1 : Int32)))]) (st' := []) (s' := s658) rfl ?_
      exact h663
  · have h657 := h.2 hc655
    exact wpc_ret rfl rfl (fun q => absurd q (by decide)) rfl ⟨rfl, h657⟩
theorem c11_in  (s : St) (Q : St → Prop) (h : wpcV PP 11 cm11 16 2 [some (.ref 0), some (.int (0 : Int32)), none] [] s Q) : calV PP 11 16 [.ref 0] s Q := by
  refine cal_of (me := cm11) (ls := [some (.ref 0), none, none]) rfl (Nat.le_of_ble_eq_true rfl) rfl ?_
  refine wpc_sl (n := 2) (c' := 16) (pc' := 2) (ls' := [some (.ref 0), some (.int (0 : Int32)), none]) (st' := []) (s' := s) rfl ?_
  exact h
theorem c11_2 (x1 : Int32) (s : St) (Q : St → Prop) (h : ((x1 < (gI s 0 15)) → inb 8 x1 ∧ inb 8 x1 ∧ (((gI s 6 (ix x1)) = (0 : Int32)) → wpcV PP 11 cm11 16 65 [some (.ref 0), some (.int x1), none] [] s Q) ∧ (¬ ((gI s 6 (ix x1)) = (0 : Int32)) → inb 8 x1 ∧ (((gI s 5 (ix x1)) = (0 : Int32)) → wpcV PP 11 cm11 16 65 [some (.ref 0), some (.int x1), none] [] s Q) ∧ (¬ ((gI s 5 (ix x1)) = (0 : Int32)) → inb 8 x1 ∧ (((gI s 7 (ix x1)) = (0 : Int32)) → (((gI s 4 (ix x1)) < (0 : Int32)) → wpcV PP 11 cm11 16 65 [some (.ref 0), some (.int x1), none] [] s Q) ∧ (¬ ((gI s 4 (ix x1)) < (0 : Int32)) → calI PP 36 16 [.ref 0, .int x1, .int (gI s 4 (ix x1)), .int (1 : Int32)] s (fun v642 s641 => ((v642 = (0 : Int32)) → wpcV PP 11 cm11 16 65 [some (.ref 0), some (.int x1), none] [] s641 Q) ∧ (¬ (v642 = (0 : Int32)) → inb 8 x1 ∧ wpcV PP 11 cm11 16 65 [some (.ref 0), some (.int x1), none] [] (sI s641 7 (ix x1) (1 : Int32)) Q)))) ∧ (¬ ((gI s 7 (ix x1)) = (0 : Int32)) → wpcV PP 11 cm11 16 65 [some (.ref 0), some (.int x1), none] [] s Q)))) ∧ (¬ (x1 < (gI s 0 15)) → calV PP 37 16 [.ref 0] s (fun s648 => wpcV PP 11 cm11 16 77 [some (.ref 0), some (.int (0 : Int32)), none] [] s648 Q))) : wpcV PP 11 cm11 16 2 [some (.ref 0), some (.int x1), none] [] s Q := by
  refine wpc_sl (n := 3) (c' := 16) (pc' := 7) (ls' := [some (.ref 0), some (.int x1), none]) (st' := [.int (gI s 0 15), .int x1]) (s' := s) rfl ?_
  refine wpc_icmp (a := 71) (b := 10) rfl (by decide) rfl rfl (wpc_br (p := x1 < (gI s 0 15)) ⟨fun hc622 => ?_, fun hc622 => ?_⟩)
  · have h623 := h.1 hc622
    refine wpc_sl (n := 3) (c' := 16) (pc' := 15) (ls' := [some (.ref 0), some (.int x1), none]) (st' := [.int x1, .ref 4]) (s' := s) rfl ?_
    refine wpc_ldaI (a := 3) (N := 8) (v := (gI s 4 (ix x1))) rfl rfl (by decide) h623.1 rfl ?_
    have h625 := h623.2
    refine wpc_sl (n := 4) (c' := 16) (pc' := 22) (ls' := [some (.ref 0), some (.int x1), some (.int (gI s 4 (ix x1)))]) (st' := [.int x1, .ref 6]) (s' := s) rfl ?_
    refine wpc_ldaZ (a := 5) (N := 8) (v := (gI s 6 (ix x1))) rfl rfl (by decide) h625.1 rfl ?_
    have h626 := h625.2
    refine wpc_if (a := 65) (b := 26) rfl (by decide) rfl rfl (wpc_br (p := (gI s 6 (ix x1)) = (0 : Int32)) ⟨fun hc627 => ?_, fun hc627 => ?_⟩)
    · have h628 := h626.1 hc627
      exact wpc_lle (ls := [some (.ref 0), some (.int x1), none]) ⟨rfl, rfl, trivial⟩ h628
    · have h629 := h626.2 hc627
      refine wpc_sl (n := 3) (c' := 16) (pc' := 31) (ls' := [some (.ref 0), some (.int x1), some (.int (gI s 4 (ix x1)))]) (st' := [.int x1, .ref 5]) (s' := s) rfl ?_
      refine wpc_ldaZ (a := 4) (N := 8) (v := (gI s 5 (ix x1))) rfl rfl (by decide) h629.1 rfl ?_
      have h630 := h629.2
      refine wpc_if (a := 65) (b := 35) rfl (by decide) rfl rfl (wpc_br (p := (gI s 5 (ix x1)) = (0 : Int32)) ⟨fun hc631 => ?_, fun hc631 => ?_⟩)
      · have h632 := h630.1 hc631
        exact wpc_lle (ls := [some (.ref 0), some (.int x1), none]) ⟨rfl, rfl, trivial⟩ h632
      · have h633 := h630.2 hc631
        refine wpc_sl (n := 3) (c' := 16) (pc' := 40) (ls' := [some (.ref 0), some (.int x1), some (.int (gI s 4 (ix x1)))]) (st' := [.int x1, .ref 7]) (s' := s) rfl ?_
        refine wpc_ldaZ (a := 6) (N := 8) (v := (gI s 7 (ix x1))) rfl rfl (by decide) h633.1 rfl ?_
        have h634 := h633.2
        refine wpc_if (a := 65) (b := 44) rfl (by decide) rfl rfl (wpc_br (p := (gI s 7 (ix x1)) = (0 : Int32)) ⟨fun hc635 => ?_, fun hc635 => ?_⟩)
        · have h636 := h634.1 hc635
          refine wpc_sl (n := 1) (c' := 16) (pc' := 45) (ls' := [some (.ref 0), some (.int x1), some (.int (gI s 4 (ix x1)))]) (st' := [.int (gI s 4 (ix x1))]) (s' := s) rfl ?_
          refine wpc_if (a := 65) (b := 48) rfl (by decide) rfl rfl (wpc_br (p := (gI s 4 (ix x1)) < (0 : Int32)) ⟨fun hc638 => ?_, fun hc638 => ?_⟩)
          · have h639 := h636.1 hc638
            exact wpc_lle (ls := [some (.ref 0), some (.int x1), none]) ⟨rfl, rfl, trivial⟩ h639
          · have h640 := h636.2 hc638
            refine wpc_sl (n := 4) (c' := 16) (pc' := 52) (ls' := [some (.ref 0), some (.int x1), some (.int (gI s 4 (ix x1)))]) (st' := [.int (1 : Int32), .int (gI s 4 (ix x1)), .int x1, .ref 0]) (s' := s) rfl ?_
            refine wpc_callI (m' := 36) (me' := cm36) (as := [.int x1, .int (gI s 4 (ix x1)), .int (1 : Int32)]) (r := []) rfl rfl rfl rfl rfl ⟨by decide, (by first | decide | exact Nat.le_of_ble_eq_true rfl), (by first | decide | exact Nat.le_of_ble_eq_true rfl), rfl⟩ (calI.mono h640 fun v642 s641 h643 => ?_)
            refine wpc_if (a := 65) (b := 58) rfl (by decide) rfl rfl (wpc_br (p := v642 = (0 : Int32)) ⟨fun hc644 => ?_, fun hc644 => ?_⟩)
            · have h645 := h643.1 hc644
              exact wpc_lle (ls := [some (.ref 0), some (.int x1), none]) ⟨rfl, rfl, trivial⟩ h645
            · have h646 := h643.2 hc644
              refine wpc_sl (n := 4) (c' := 16) (pc' := 64) (ls' := [some (.ref 0), some (.int x1), some (.int (gI s 4 (ix x1)))]) (st' := [.int (1 : Int32), .int x1, .ref 7]) (s' := s641) rfl ?_
              refine wpc_staZ (a := 6) (N := 8) (s' := (sI s641 7 (ix x1) (1 : Int32))) rfl rfl (by decide) h646.1 rfl ?_
              have h647 := h646.2
              exact wpc_lle (ls := [some (.ref 0), some (.int x1), none]) ⟨rfl, rfl, trivial⟩ h647
        · have h637 := h634.2 hc635
          exact wpc_lle (ls := [some (.ref 0), some (.int x1), none]) ⟨rfl, rfl, trivial⟩ h637
  · have h624 := h.2 hc622
    refine wpc_sl (n := 1) (c' := 16) (pc' := 72) (ls' := [some (.ref 0), some (.int x1), none]) (st' := [.ref 0]) (s' := s) rfl ?_
    refine wpc_callV (m' := 37) (me' := cm37) (as := []) (r := []) rfl rfl rfl rfl rfl ⟨by decide, (by first | decide | exact Nat.le_of_ble_eq_true rfl), (by first | decide | exact Nat.le_of_ble_eq_true rfl), rfl⟩ (calV.mono h624 fun s648 h650 => ?_)
    refine wpc_sl (n := 2) (c' := 16) (pc' := 77) (ls' := [some (.ref 0), some (.int (0 : Int32)), none]) (st' := []) (s' := s648) rfl ?_
    exact h650
theorem c11_65 (x1 : Int32) (s : St) (Q : St → Prop) (h : wpcV PP 11 cm11 16 2 [some (.ref 0), some (.int (x1 + (1 : Int32))), none] [] s Q) : wpcV PP 11 cm11 16 65 [some (.ref 0), some (.int x1), none] [] s Q := by
  refine wpc_sl (n := 2) (c' := 16) (pc' := 2) (ls' := [some (.ref 0), some (.int (x1 + (1 : Int32))), none]) (st' := []) (s' := s) rfl ?_
  exact h
theorem c11_77 (x1 : Int32) (s : St) (Q : St → Prop) (h : ((x1 < (32 : Int32)) → inb 32 x1 ∧ wpcV PP 11 cm11 16 77 [some (.ref 0), some (.int (x1 + (1 : Int32))), none] [] (sI s 2 (ix x1) (1 : Int32)) Q) ∧ (¬ (x1 < (32 : Int32)) → Q s)) : wpcV PP 11 cm11 16 77 [some (.ref 0), some (.int x1), none] [] s Q := by
  refine wpc_sl (n := 2) (c' := 16) (pc' := 80) (ls' := [some (.ref 0), some (.int x1), none]) (st' := [.int (32 : Int32), .int x1]) (s' := s) rfl ?_
  refine wpc_icmp (a := 96) (b := 83) rfl (by decide) rfl rfl (wpc_br (p := x1 < (32 : Int32)) ⟨fun hc651 => ?_, fun hc651 => ?_⟩)
  · have h652 := h.1 hc651
    refine wpc_sl (n := 4) (c' := 16) (pc' := 89) (ls' := [some (.ref 0), some (.int x1), none]) (st' := [.int (1 : Int32), .int x1, .ref 2]) (s' := s) rfl ?_
    refine wpc_staZ (a := 1) (N := 32) (s' := (sI s 2 (ix x1) (1 : Int32))) rfl rfl (by decide) h652.1 rfl ?_
    have h654 := h652.2
    refine wpc_sl (n := 2) (c' := 16) (pc' := 77) (ls' := [some (.ref 0), some (.int (x1 + (1 : Int32))), none]) (st' := []) (s' := (sI s 2 (ix x1) (1 : Int32))) rfl ?_
    exact h654
  · have h653 := h.2 hc651
    exact wpc_ret rfl rfl (fun q => absurd q (by decide)) rfl ⟨rfl, h653⟩
theorem c13_in  (s : St) (Q : Int32 → St → Prop) (h : wpcI PP 13 cm13 16 4 [some (.ref 0), some (.int (0 : Int32)), some (.int (0 : Int32))] [] s Q) : calI PP 13 16 [.ref 0] s Q := by
  refine cal_of (me := cm13) (ls := [some (.ref 0), none, none]) rfl (Nat.le_of_ble_eq_true rfl) rfl ?_
  refine wpc_sl (n := 4) (c' := 16) (pc' := 4) (ls' := [some (.ref 0), some (.int (0 : Int32)), some (.int (0 : Int32))]) (st' := []) (s' := s) rfl ?_
  exact h
theorem c13_4 (x1 : Int32) (x2 : Int32) (s : St) (Q : Int32 → St → Prop) (h : ((x2 < (gI s 0 14)) → inb 32 x2 ∧ ∀ m668, m668 = (if (gI s 2 (ix x2)) = (0 : Int32) then (x1 + (1 : Int32)) else x1) → (wpcI PP 13 cm13 16 4 [some (.ref 0), some (.int m668), some (.int (x2 + (1 : Int32)))] [] s Q)) ∧ (¬ (x2 < (gI s 0 14)) → Q x1 s)) : wpcI PP 13 cm13 16 4 [some (.ref 0), some (.int x1), some (.int x2)] [] s Q := by
  refine wpc_sl (n := 3) (c' := 16) (pc' := 9) (ls' := [some (.ref 0), some (.int x1), some (.int x2)]) (st' := [.int (gI s 0 14), .int x2]) (s' := s) rfl ?_
  refine wpc_icmp (a := 30) (b := 12) rfl (by decide) rfl rfl (wpc_br (p := x2 < (gI s 0 14)) ⟨fun hc664 => ?_, fun hc664 => ?_⟩)
  · have h665 := h.1 hc664
    refine wpc_sl (n := 3) (c' := 16) (pc' := 17) (ls' := [some (.ref 0), some (.int x1), some (.int x2)]) (st' := [.int x2, .ref 2]) (s' := s) rfl ?_
    refine wpc_ldaZ (a := 1) (N := 32) (v := (gI s 2 (ix x2))) rfl rfl (by decide) h665.1 rfl ?_
    have h667 := h665.2
    have hm669 : ∀ m668, m668 = (if (gI s 2 (ix x2)) = (0 : Int32) then (x1 + (1 : Int32)) else x1) → wpcI PP 13 cm13 16 24 [some (.ref 0), some (.int m668), some (.int x2)] [] s Q := by
      intro m668 em668
      have h670 := h667 m668 em668
      refine wpc_sl (n := 2) (c' := 16) (pc' := 4) (ls' := [some (.ref 0), some (.int m668), some (.int (x2 + (1 : Int32)))]) (st' := []) (s' := s) rfl ?_
      exact h670
    refine wpc_if (a := 24) (b := 21) rfl (by decide) rfl rfl (wpc_br (p := (gI s 2 (ix x2)) = (0 : Int32)) ⟨fun hc671 => ?_, fun hc671 => ?_⟩)
    · refine wpc_sl (n := 1) (c' := 16) (pc' := 24) (ls' := [some (.ref 0), some (.int (x1 + (1 : Int32))), some (.int x2)]) (st' := []) (s' := s) rfl ?_
      first | exact hm669 _ (by simp only [if_pos hc671]) | exact wpc_lle (by repeat (first | exact trivial | refine ⟨rfl, ?_⟩)) (hm669 _ (by simp only [if_pos hc671]))
    · first | exact hm669 _ (by simp only [if_neg hc671]) | exact wpc_lle (by repeat (first | exact trivial | refine ⟨rfl, ?_⟩)) (hm669 _ (by simp only [if_neg hc671]))
  · have h666 := h.2 hc664
    refine wpc_sl (n := 1) (c' := 16) (pc' := 31) (ls' := [some (.ref 0), some (.int x1), some (.int x2)]) (st' := [.int x1]) (s' := s) rfl ?_
    exact wpc_ret rfl rfl (fun q => absurd q (by decide)) rfl ⟨x1, rfl, h666⟩
theorem c21_in (a1 : Int32) (s : St) (Q : Int32 → St → Prop) (h : ((a1 < (0 : Int32)) → Q (1 : Int32) s) ∧ (¬ (a1 < (0 : Int32)) → ((a1 < (4 : Int32)) → Q (0 : Int32) s) ∧ (¬ (a1 < (4 : Int32)) → Q (1 : Int32) s))) : calI PP 21 16 [.ref 0, .int a1] s Q := by
  refine cal_of (me := cm21) (ls := [some (.ref 0), some (.int a1)]) rfl (Nat.le_of_ble_eq_true rfl) rfl ?_
  refine wpc_sl (n := 1) (c' := 16) (pc' := 1) (ls' := [some (.ref 0), some (.int a1)]) (st' := [.int a1]) (s' := s) rfl ?_
  refine wpc_if (a := 9) (b := 4) rfl (by decide) rfl rfl (wpc_br (p := a1 < (0 : Int32)) ⟨fun hc702 => ?_, fun hc702 => ?_⟩)
  · have h703 := h.1 hc702
    refine wpc_sl (n := 2) (c' := 16) (pc' := 14) (ls' := [some (.ref 0), some (.int a1)]) (st' := [.int (1 : Int32)]) (s' := s) rfl ?_
    exact wpc_ret rfl rfl (fun q => absurd q (by decide)) rfl ⟨(1 : Int32), rfl, h703⟩
  · have h704 := h.2 hc702
    refine wpc_sl (n := 2) (c' := 16) (pc' := 6) (ls' := [some (.ref 0), some (.int a1)]) (st' := [.int (4 : Int32), .int a1]) (s' := s) rfl ?_
    refine wpc_icmp (a := 13) (b := 9) rfl (by decide) rfl rfl (wpc_br (p := a1 < (4 : Int32)) ⟨fun hc705 => ?_, fun hc705 => ?_⟩)
    · have h706 := h704.1 hc705
      refine wpc_sl (n := 1) (c' := 16) (pc' := 14) (ls' := [some (.ref 0), some (.int a1)]) (st' := [.int (0 : Int32)]) (s' := s) rfl ?_
      exact wpc_ret rfl rfl (fun q => absurd q (by decide)) rfl ⟨(0 : Int32), rfl, h706⟩
    · have h707 := h704.2 hc705
      refine wpc_sl (n := 2) (c' := 16) (pc' := 14) (ls' := [some (.ref 0), some (.int a1)]) (st' := [.int (1 : Int32)]) (s' := s) rfl ?_
      exact wpc_ret rfl rfl (fun q => absurd q (by decide)) rfl ⟨(1 : Int32), rfl, h707⟩
theorem c5_in (a1 : Int32) (a2 : Int32) (a3 : Int32) (s : St) (Q : Int32 → St → Prop) (h : calI PP 19 16 [.ref 0, .int a1] s (fun v673 s672 => ((v673 = (0 : Int32)) → calI PP 20 16 [.ref 0, .int a2] s672 (fun v679 s678 => ((v679 = (0 : Int32)) → calI PP 21 16 [.ref 0, .int a3] s678 (fun v685 s684 => ((v685 = (0 : Int32)) → calI PP 32 16 [.ref 0, .int a1, .int a2, .int (1 : Int32)] s684 (fun v691 s690 => calI PP 24 16 [.ref 0, .int v691, .int a2, .int a3] s690 (fun v694 s693 => calV PP 29 16 [.ref 0, .int v691] s693 (fun s696 => inb 4 a1 ∧ inb 4 a1 ∧ inb 4 a1 ∧ Q v694 (sI (sI s696 13 (ix a1) v694) 14 (ix a1) ((gI s696 14 (ix a1)) + (1 : Int32))))))) ∧ (¬ (v685 = (0 : Int32)) → Q (-4 : Int32) s684))) ∧ (¬ (v679 = (0 : Int32)) → Q (-3 : Int32) s678))) ∧ (¬ (v673 = (0 : Int32)) → Q (-2 : Int32) s672))) : calI PP 5 16 [.ref 0, .int a1, .int a2, .int a3] s Q := by
  refine cal_of (me := cm5) (ls := [some (.ref 0), some (.int a1), some (.int a2), some (.int a3), none, none]) rfl (Nat.le_of_ble_eq_true rfl) rfl ?_
  refine wpc_sl (n := 2) (c' := 16) (pc' := 2) (ls' := [some (.ref 0), some (.int a1), some (.int a2), some (.int a3), none, none]) (st' := [.int a1, .ref 0]) (s' := s) rfl ?_
  refine wpc_callI (m' := 19) (me' := cm19) (as := [.int a1]) (r := []) rfl rfl rfl rfl rfl ⟨by decide, (by first | decide | exact Nat.le_of_ble_eq_true rfl), (by first | decide | exact Nat.le_of_ble_eq_true rfl), rfl⟩ (calI.mono h fun v673 s672 h674 => ?_)
  refine wpc_if (a := 11) (b := 8) rfl (by decide) rfl rfl (wpc_br (p := v673 = (0 : Int32)) ⟨fun hc675 => ?_, fun hc675 => ?_⟩)
  · have h676 := h674.1 hc675
    refine wpc_sl (n := 2) (c' := 16) (pc' := 13) (ls' := [some (.ref 0), some (.int a1), some (.int a2), some (.int a3), none, none]) (st' := [.int a2, .ref 0]) (s' := s672) rfl ?_
    refine wpc_callI (m' := 20) (me' := cm20) (as := [.int a2]) (r := []) rfl rfl rfl rfl rfl ⟨by decide, (by first | decide | exact Nat.le_of_ble_eq_true rfl), (by first | decide | exact Nat.le_of_ble_eq_true rfl), rfl⟩ (calI.mono h676 fun v679 s678 h680 => ?_)
    refine wpc_if (a := 22) (b := 19) rfl (by decide) rfl rfl (wpc_br (p := v679 = (0 : Int32)) ⟨fun hc681 => ?_, fun hc681 => ?_⟩)
    · have h682 := h680.1 hc681
      refine wpc_sl (n := 2) (c' := 16) (pc' := 24) (ls' := [some (.ref 0), some (.int a1), some (.int a2), some (.int a3), none, none]) (st' := [.int a3, .ref 0]) (s' := s678) rfl ?_
      refine wpc_callI (m' := 21) (me' := cm21) (as := [.int a3]) (r := []) rfl rfl rfl rfl rfl ⟨by decide, (by first | decide | exact Nat.le_of_ble_eq_true rfl), (by first | decide | exact Nat.le_of_ble_eq_true rfl), rfl⟩ (calI.mono h682 fun v685 s684 h686 => ?_)
      refine wpc_if (a := 33) (b := 30) rfl (by decide) rfl rfl (wpc_br (p := v685 = (0 : Int32)) ⟨fun hc687 => ?_, fun hc687 => ?_⟩)
      · have h688 := h686.1 hc687
        refine wpc_sl (n := 4) (c' := 16) (pc' := 37) (ls' := [some (.ref 0), some (.int a1), some (.int a2), some (.int a3), none, none]) (st' := [.int (1 : Int32), .int a2, .int a1, .ref 0]) (s' := s684) rfl ?_
        refine wpc_callI (m' := 32) (me' := cm32) (as := [.int a1, .int a2, .int (1 : Int32)]) (r := []) rfl rfl rfl rfl rfl ⟨by decide, (by first | decide | exact Nat.le_of_ble_eq_true rfl), (by first | decide | exact Nat.le_of_ble_eq_true rfl), rfl⟩ (calI.mono h688 fun v691 s690 h692 => ?_)
        refine wpc_sl (n := 5) (c' := 16) (pc' := 47) (ls' := [some (.ref 0), some (.int a1), some (.int a2), some (.int a3), some (.int v691), none]) (st' := [.int a3, .int a2, .int v691, .ref 0]) (s' := s690) rfl ?_
        refine wpc_callI (m' := 24) (me' := cm24) (as := [.int v691, .int a2, .int a3]) (r := []) rfl rfl rfl rfl rfl ⟨by decide, (by first | decide | exact Nat.le_of_ble_eq_true rfl), (by first | decide | exact Nat.le_of_ble_eq_true rfl), rfl⟩ (calI.mono h692 fun v694 s693 h695 => ?_)
        refine wpc_sl (n := 3) (c' := 16) (pc' := 55) (ls' := [some (.ref 0), some (.int a1), some (.int a2), some (.int a3), some (.int v691), some (.int v694)]) (st' := [.int v691, .ref 0]) (s' := s693) rfl ?_
        refine wpc_callV (m' := 29) (me' := cm29) (as := [.int v691]) (r := []) rfl rfl rfl rfl rfl ⟨by decide, (by first | decide | exact Nat.le_of_ble_eq_true rfl), (by first | decide | exact Nat.le_of_ble_eq_true rfl), rfl⟩ (calV.mono h695 fun s696 h698 => ?_)
        refine wpc_sl (n := 4) (c' := 16) (pc' := 65) (ls' := [some (.ref 0), some (.int a1), some (.int a2), some (.int a3), some (.int v691), some (.int v694)]) (st' := [.int v694, .int a1, .ref 13]) (s' := s696) rfl ?_
        refine wpc_staI (a := 12) (N := 4) (s' := (sI s696 13 (ix a1) v694)) rfl rfl (by decide) h698.1 rfl ?_
        have h699 := h698.2
        refine wpc_sl (n := 6) (c' := 16) (pc' := 76) (ls' := [some (.ref 0), some (.int a1), some (.int a2), some (.int a3), some (.int v691), some (.int v694)]) (st' := [.int a1, .ref 14, .int a1, .ref 14]) (s' := (sI s696 13 (ix a1) v694)) rfl ?_
        refine wpc_ldaI (a := 13) (N := 4) (v := (gI s696 14 (ix a1))) rfl rfl (by decide) h699.1 rfl ?_
        have h700 := h699.2
        refine wpc_sl (n := 2) (c' := 16) (pc' := 79) (ls' := [some (.ref 0), some (.int a1), some (.int a2), some (.int a3), some (.int v691), some (.int v694)]) (st' := [.int ((gI s696 14 (ix a1)) + (1 : Int32)), .int a1, .ref 14]) (s' := (sI s696 13 (ix a1) v694)) rfl ?_
        refine wpc_staI (a := 13) (N := 4) (s' := (sI (sI s696 13 (ix a1) v694) 14 (ix a1) ((gI s696 14 (ix a1)) + (1 : Int32)))) rfl rfl (by decide) h700.1 rfl ?_
        have h701 := h700.2
        refine wpc_sl (n := 1) (c' := 16) (pc' := 82) (ls' := [some (.ref 0), some (.int a1), some (.int a2), some (.int a3), some (.int v691), some (.int v694)]) (st' := [.int v694]) (s' := (sI (sI s696 13 (ix a1) v694) 14 (ix a1) ((gI s696 14 (ix a1)) + (1 : Int32)))) rfl ?_
        exact wpc_ret rfl rfl (fun q => absurd q (by decide)) rfl ⟨v694, rfl, h701⟩
      · have h689 := h686.2 hc687
        refine wpc_sl (n := 1) (c' := 16) (pc' := 32) (ls' := [some (.ref 0), some (.int a1), some (.int a2), some (.int a3), none, none]) (st' := [.int (-4 : Int32)]) (s' := s684) rfl ?_
        exact wpc_ret rfl rfl (fun q => absurd q (by decide)) rfl ⟨(-4 : Int32), rfl, h689⟩
    · have h683 := h680.2 hc681
      refine wpc_sl (n := 1) (c' := 16) (pc' := 21) (ls' := [some (.ref 0), some (.int a1), some (.int a2), some (.int a3), none, none]) (st' := [.int (-3 : Int32)]) (s' := s678) rfl ?_
      exact wpc_ret rfl rfl (fun q => absurd q (by decide)) rfl ⟨(-3 : Int32), rfl, h683⟩
  · have h677 := h674.2 hc675
    refine wpc_sl (n := 1) (c' := 16) (pc' := 10) (ls' := [some (.ref 0), some (.int a1), some (.int a2), some (.int a3), none, none]) (st' := [.int (-2 : Int32)]) (s' := s672) rfl ?_
    exact wpc_ret rfl rfl (fun q => absurd q (by decide)) rfl ⟨(-2 : Int32), rfl, h677⟩
theorem l3W1_in (N : Nat) (sg : Nat → Int32) (a0 : Int64) (a1 : Int64) (a2 : Int32) (a3 : Int32) (s : St) (Q : Int32 → Wd → Prop) (h : ∀ m708, m708 = (if a2 < (4 : Int32) then a0 else a1) → (Q (Int64.toInt32 ((XT.ushrL m708 ((((a2 &&& (3 : Int32)) * (4 : Int32)) + a3) * (4 : Int32))) &&& (15 : Int64))) (W1 s))) : lalI PP QQ (some (N, sg)) 3 [.long a0, .long a1, .int a2, .int a3] (W1 s) Q := by
  refine lal_of (me := lm3) (ls := [some (.long a0), none, some (.long a1), none, some (.int a2), some (.int a3), none, none, none]) rfl (Nat.le_of_ble_eq_true rfl) rfl ?_
  refine wpl_sl (n := 2) (pc' := 3) (ls' := [some (.long a0), none, some (.long a1), none, some (.int a2), some (.int a3), none, none, none]) (st' := [.int (4 : Int32), .int a2]) rfl ?_
  have hm709 : ∀ m708, m708 = (if a2 < (4 : Int32) then a0 else a1) → wplI PP QQ (some (N, sg)) 3 lm3 11 [some (.long a0), none, some (.long a1), none, some (.int a2), some (.int a3), none, none, none] [.long m708] (W1 s) Q := by
    intro m708 em708
    have h710 := h m708 em708
    refine wpl_sl (n := 5) (pc' := 18) (ls' := [some (.long a0), none, some (.long a1), none, some (.int a2), some (.int a3), some (.long m708), none, none]) (st' := [.int (4 : Int32), .int (a2 &&& (3 : Int32))]) rfl ?_
    refine wpl_sl (n := 5) (pc' := 24) (ls' := [some (.long a0), none, some (.long a1), none, some (.int a2), some (.int a3), some (.long m708), none, none]) (st' := [.int ((((a2 &&& (3 : Int32)) * (4 : Int32)) + a3) * (4 : Int32))]) rfl ?_
    refine wpl_sl (n := 5) (pc' := 34) (ls' := [some (.long a0), none, some (.long a1), none, some (.int a2), some (.int a3), some (.long m708), none, some (.int ((((a2 &&& (3 : Int32)) * (4 : Int32)) + a3) * (4 : Int32)))]) (st' := [.long (15 : Int64), .long (XT.ushrL m708 ((((a2 &&& (3 : Int32)) * (4 : Int32)) + a3) * (4 : Int32)))]) rfl ?_
    refine wpl_sl (n := 2) (pc' := 36) (ls' := [some (.long a0), none, some (.long a1), none, some (.int a2), some (.int a3), some (.long m708), none, some (.int ((((a2 &&& (3 : Int32)) * (4 : Int32)) + a3) * (4 : Int32)))]) (st' := [.int (Int64.toInt32 ((XT.ushrL m708 ((((a2 &&& (3 : Int32)) * (4 : Int32)) + a3) * (4 : Int32))) &&& (15 : Int64)))]) rfl ?_
    exact wpl_ret rfl rfl rfl ⟨(Int64.toInt32 ((XT.ushrL m708 ((((a2 &&& (3 : Int32)) * (4 : Int32)) + a3) * (4 : Int32))) &&& (15 : Int64))), rfl, h710⟩
  refine wpl_icmp (a := 10) (b := 6) rfl (by decide) rfl rfl (wpl_br (p := a2 < (4 : Int32)) ⟨fun hc711 => ?_, fun hc711 => ?_⟩)
  · refine wpl_sl (n := 2) (pc' := 11) (ls' := [some (.long a0), none, some (.long a1), none, some (.int a2), some (.int a3), none, none, none]) (st' := [.long a0]) rfl ?_
    first | exact hm709 _ (by simp only [if_pos hc711]) | exact wpl_lle (by repeat (first | exact trivial | refine ⟨rfl, ?_⟩)) (hm709 _ (by simp only [if_pos hc711]))
  · refine wpl_sl (n := 1) (pc' := 11) (ls' := [some (.long a0), none, some (.long a1), none, some (.int a2), some (.int a3), none, none, none]) (st' := [.long a1]) rfl ?_
    first | exact hm709 _ (by simp only [if_neg hc711]) | exact wpl_lle (by repeat (first | exact trivial | refine ⟨rfl, ?_⟩)) (hm709 _ (by simp only [if_neg hc711]))
theorem c6_in (a1 : Int32) (a2 : Int32) (a3 : Int32) (a4 : Int32) (s : St) (Q : Int32 → St → Prop) (h : calI PP 19 16 [.ref 0, .int a1] s (fun v713 s712 => ((v713 = (0 : Int32)) → calI PP 20 16 [.ref 0, .int a2] s712 (fun v719 s718 => ((v719 = (0 : Int32)) → calI PP 21 16 [.ref 0, .int a3] s718 (fun v725 s724 => ((v725 = (0 : Int32)) → calI PP 32 16 [.ref 0, .int a1, .int a2, .int (1 : Int32)] s724 (fun v731 s730 => calV PP 25 16 [.ref 0, .int v731, .int a2, .int a3, .int (a4 &&& (65535 : Int32))] s730 (fun s733 => calV PP 27 16 [.ref 0, .int v731] s733 (fun s736 => calV PP 29 16 [.ref 0, .int v731] s736 (fun s739 => inb 32 a2 ∧ inb 4 a1 ∧ inb 4 a1 ∧ Q (0 : Int32) (sI (sI s739 2 (ix a2) (0 : Int32)) 15 (ix a1) ((gI s739 15 (ix a1)) + (1 : Int32)))))))) ∧ (¬ (v725 = (0 : Int32)) → Q (-4 : Int32) s724))) ∧ (¬ (v719 = (0 : Int32)) → Q (-3 : Int32) s718))) ∧ (¬ (v713 = (0 : Int32)) → Q (-2 : Int32) s712))) : calI PP 6 16 [.ref 0, .int a1, .int a2, .int a3, .int a4] s Q := by
  refine cal_of (me := cm6) (ls := [some (.ref 0), some (.int a1), some (.int a2), some (.int a3), some (.int a4), none]) rfl (Nat.le_of_ble_eq_true rfl) rfl ?_
  refine wpc_sl (n := 2) (c' := 16) (pc' := 2) (ls' := [some (.ref 0), some (.int a1), some (.int a2), some (.int a3), some (.int a4), none]) (st' := [.int a1, .ref 0]) (s' := s) rfl ?_
  refine wpc_callI (m' := 19) (me' := cm19) (as := [.int a1]) (r := []) rfl rfl rfl rfl rfl ⟨by decide, (by first | decide | exact Nat.le_of_ble_eq_true rfl), (by first | decide | exact Nat.le_of_ble_eq_true rfl), rfl⟩ (calI.mono h fun v713 s712 h714 => ?_)
  refine wpc_if (a := 11) (b := 8) rfl (by decide) rfl rfl (wpc_br (p := v713 = (0 : Int32)) ⟨fun hc715 => ?_, fun hc715 => ?_⟩)
  · have h716 := h714.1 hc715
    refine wpc_sl (n := 2) (c' := 16) (pc' := 13) (ls' := [some (.ref 0), some (.int a1), some (.int a2), some (.int a3), some (.int a4), none]) (st' := [.int a2, .ref 0]) (s' := s712) rfl ?_
    refine wpc_callI (m' := 20) (me' := cm20) (as := [.int a2]) (r := []) rfl rfl rfl rfl rfl ⟨by decide, (by first | decide | exact Nat.le_of_ble_eq_true rfl), (by first | decide | exact Nat.le_of_ble_eq_true rfl), rfl⟩ (calI.mono h716 fun v719 s718 h720 => ?_)
    refine wpc_if (a := 22) (b := 19) rfl (by decide) rfl rfl (wpc_br (p := v719 = (0 : Int32)) ⟨fun hc721 => ?_, fun hc721 => ?_⟩)
    · have h722 := h720.1 hc721
      refine wpc_sl (n := 2) (c' := 16) (pc' := 24) (ls' := [some (.ref 0), some (.int a1), some (.int a2), some (.int a3), some (.int a4), none]) (st' := [.int a3, .ref 0]) (s' := s718) rfl ?_
      refine wpc_callI (m' := 21) (me' := cm21) (as := [.int a3]) (r := []) rfl rfl rfl rfl rfl ⟨by decide, (by first | decide | exact Nat.le_of_ble_eq_true rfl), (by first | decide | exact Nat.le_of_ble_eq_true rfl), rfl⟩ (calI.mono h722 fun v725 s724 h726 => ?_)
      refine wpc_if (a := 33) (b := 30) rfl (by decide) rfl rfl (wpc_br (p := v725 = (0 : Int32)) ⟨fun hc727 => ?_, fun hc727 => ?_⟩)
      · have h728 := h726.1 hc727
        refine wpc_sl (n := 4) (c' := 16) (pc' := 37) (ls' := [some (.ref 0), some (.int a1), some (.int a2), some (.int a3), some (.int a4), none]) (st' := [.int (1 : Int32), .int a2, .int a1, .ref 0]) (s' := s724) rfl ?_
        refine wpc_callI (m' := 32) (me' := cm32) (as := [.int a1, .int a2, .int (1 : Int32)]) (r := []) rfl rfl rfl rfl rfl ⟨by decide, (by first | decide | exact Nat.le_of_ble_eq_true rfl), (by first | decide | exact Nat.le_of_ble_eq_true rfl), rfl⟩ (calI.mono h728 fun v731 s730 h732 => ?_)
        refine wpc_sl (n := 8) (c' := 16) (pc' := 52) (ls' := [some (.ref 0), some (.int a1), some (.int a2), some (.int a3), some (.int a4), some (.int v731)]) (st' := [.int (a4 &&& (65535 : Int32)), .int a3, .int a2, .int v731, .ref 0]) (s' := s730) rfl ?_
        refine wpc_callV (m' := 25) (me' := cm25) (as := [.int v731, .int a2, .int a3, .int (a4 &&& (65535 : Int32))]) (r := []) rfl rfl rfl rfl rfl ⟨by decide, (by first | decide | exact Nat.le_of_ble_eq_true rfl), (by first | decide | exact Nat.le_of_ble_eq_true rfl), rfl⟩ (calV.mono h732 fun s733 h735 => ?_)
        refine wpc_sl (n := 2) (c' := 16) (pc' := 58) (ls' := [some (.ref 0), some (.int a1), some (.int a2), some (.int a3), some (.int a4), some (.int v731)]) (st' := [.int v731, .ref 0]) (s' := s733) rfl ?_
        refine wpc_callV (m' := 27) (me' := cm27) (as := [.int v731]) (r := []) rfl rfl rfl rfl rfl ⟨by decide, (by first | decide | exact Nat.le_of_ble_eq_true rfl), (by first | decide | exact Nat.le_of_ble_eq_true rfl), rfl⟩ (calV.mono h735 fun s736 h738 => ?_)
        refine wpc_sl (n := 2) (c' := 16) (pc' := 64) (ls' := [some (.ref 0), some (.int a1), some (.int a2), some (.int a3), some (.int a4), some (.int v731)]) (st' := [.int v731, .ref 0]) (s' := s736) rfl ?_
        refine wpc_callV (m' := 29) (me' := cm29) (as := [.int v731]) (r := []) rfl rfl rfl rfl rfl ⟨by decide, (by first | decide | exact Nat.le_of_ble_eq_true rfl), (by first | decide | exact Nat.le_of_ble_eq_true rfl), rfl⟩ (calV.mono h738 fun s739 h741 => ?_)
        refine wpc_sl (n := 4) (c' := 16) (pc' := 73) (ls' := [some (.ref 0), some (.int a1), some (.int a2), some (.int a3), some (.int a4), some (.int v731)]) (st' := [.int (0 : Int32), .int a2, .ref 2]) (s' := s739) rfl ?_
        refine wpc_staZ (a := 1) (N := 32) (s' := (sI s739 2 (ix a2) (0 : Int32))) rfl rfl (by decide) h741.1 rfl ?_
        have h742 := h741.2
        refine wpc_sl (n := 6) (c' := 16) (pc' := 84) (ls' := [some (.ref 0), some (.int a1), some (.int a2), some (.int a3), some (.int a4), some (.int v731)]) (st' := [.int a1, .ref 15, .int a1, .ref 15]) (s' := (sI s739 2 (ix a2) (0 : Int32))) rfl ?_
        refine wpc_ldaI (a := 14) (N := 4) (v := (gI s739 15 (ix a1))) rfl rfl (by decide) h742.1 rfl ?_
        have h743 := h742.2
        refine wpc_sl (n := 2) (c' := 16) (pc' := 87) (ls' := [some (.ref 0), some (.int a1), some (.int a2), some (.int a3), some (.int a4), some (.int v731)]) (st' := [.int ((gI s739 15 (ix a1)) + (1 : Int32)), .int a1, .ref 15]) (s' := (sI s739 2 (ix a2) (0 : Int32))) rfl ?_
        refine wpc_staI (a := 14) (N := 4) (s' := (sI (sI s739 2 (ix a2) (0 : Int32)) 15 (ix a1) ((gI s739 15 (ix a1)) + (1 : Int32)))) rfl rfl (by decide) h743.1 rfl ?_
        have h744 := h743.2
        refine wpc_sl (n := 1) (c' := 16) (pc' := 89) (ls' := [some (.ref 0), some (.int a1), some (.int a2), some (.int a3), some (.int a4), some (.int v731)]) (st' := [.int (0 : Int32)]) (s' := (sI (sI s739 2 (ix a2) (0 : Int32)) 15 (ix a1) ((gI s739 15 (ix a1)) + (1 : Int32)))) rfl ?_
        exact wpc_ret rfl rfl (fun q => absurd q (by decide)) rfl ⟨(0 : Int32), rfl, h744⟩
      · have h729 := h726.2 hc727
        refine wpc_sl (n := 1) (c' := 16) (pc' := 32) (ls' := [some (.ref 0), some (.int a1), some (.int a2), some (.int a3), some (.int a4), none]) (st' := [.int (-4 : Int32)]) (s' := s724) rfl ?_
        exact wpc_ret rfl rfl (fun q => absurd q (by decide)) rfl ⟨(-4 : Int32), rfl, h729⟩
    · have h723 := h720.2 hc721
      refine wpc_sl (n := 1) (c' := 16) (pc' := 21) (ls' := [some (.ref 0), some (.int a1), some (.int a2), some (.int a3), some (.int a4), none]) (st' := [.int (-3 : Int32)]) (s' := s718) rfl ?_
      exact wpc_ret rfl rfl (fun q => absurd q (by decide)) rfl ⟨(-3 : Int32), rfl, h723⟩
  · have h717 := h714.2 hc715
    refine wpc_sl (n := 1) (c' := 16) (pc' := 10) (ls' := [some (.ref 0), some (.int a1), some (.int a2), some (.int a3), some (.int a4), none]) (st' := [.int (-2 : Int32)]) (s' := s712) rfl ?_
    exact wpc_ret rfl rfl (fun q => absurd q (by decide)) rfl ⟨(-2 : Int32), rfl, h717⟩
theorem l4W1_in (N : Nat) (sg : Nat → Int32) (a0 : Int64) (a1 : Int32) (a2 : Int32) (a3 : Int32) (s : St) (Q : Int64 → Wd → Prop) (h : Q ((a0 &&& (((15 : Int64) <<< ((((((a1 &&& (3 : Int32)) * (4 : Int32)) + a2) * (4 : Int32))).toInt64 &&& 63)) ^^^ (-1 : Int64))) ||| ((Int32.toInt64 (a3 &&& (15 : Int32))) <<< ((((((a1 &&& (3 : Int32)) * (4 : Int32)) + a2) * (4 : Int32))).toInt64 &&& 63))) (W1 s)) : lalL PP QQ (some (N, sg)) 4 [.long a0, .int a1, .int a2, .int a3] (W1 s) Q := by
  refine lal_of (me := lm4) (ls := [some (.long a0), none, some (.int a1), some (.int a2), some (.int a3), none]) rfl (Nat.le_of_ble_eq_true rfl) rfl ?_
  refine wpl_sl (n := 5) (pc' := 5) (ls' := [some (.long a0), none, some (.int a1), some (.int a2), some (.int a3), none]) (st' := [.int ((a1 &&& (3 : Int32)) * (4 : Int32))]) rfl ?_
  refine wpl_sl (n := 5) (pc' := 11) (ls' := [some (.long a0), none, some (.int a1), some (.int a2), some (.int a3), some (.int ((((a1 &&& (3 : Int32)) * (4 : Int32)) + a2) * (4 : Int32)))]) (st' := []) rfl ?_
  refine wpl_sl (n := 5) (pc' := 21) (ls' := [some (.long a0), none, some (.int a1), some (.int a2), some (.int a3), some (.int ((((a1 &&& (3 : Int32)) * (4 : Int32)) + a2) * (4 : Int32)))]) (st' := [.long (-1 : Int64), .long ((15 : Int64) <<< ((((((a1 &&& (3 : Int32)) * (4 : Int32)) + a2) * (4 : Int32))).toInt64 &&& 63)), .long a0]) rfl ?_
  refine wpl_sl (n := 5) (pc' := 28) (ls' := [some (.long a0), none, some (.int a1), some (.int a2), some (.int a3), some (.int ((((a1 &&& (3 : Int32)) * (4 : Int32)) + a2) * (4 : Int32)))]) (st' := [.int (a3 &&& (15 : Int32)), .long (a0 &&& (((15 : Int64) <<< ((((((a1 &&& (3 : Int32)) * (4 : Int32)) + a2) * (4 : Int32))).toInt64 &&& 63)) ^^^ (-1 : Int64)))]) rfl ?_
  refine wpl_sl (n := 4) (pc' := 33) (ls' := [some (.long a0), none, some (.int a1), some (.int a2), some (.int a3), some (.int ((((a1 &&& (3 : Int32)) * (4 : Int32)) + a2) * (4 : Int32)))]) (st' := [.long ((a0 &&& (((15 : Int64) <<< ((((((a1 &&& (3 : Int32)) * (4 : Int32)) + a2) * (4 : Int32))).toInt64 &&& 63)) ^^^ (-1 : Int64))) ||| ((Int32.toInt64 (a3 &&& (15 : Int32))) <<< ((((((a1 &&& (3 : Int32)) * (4 : Int32)) + a2) * (4 : Int32))).toInt64 &&& 63)))]) rfl ?_
  exact wpl_ret rfl rfl rfl ⟨((a0 &&& (((15 : Int64) <<< ((((((a1 &&& (3 : Int32)) * (4 : Int32)) + a2) * (4 : Int32))).toInt64 &&& 63)) ^^^ (-1 : Int64))) ||| ((Int32.toInt64 (a3 &&& (15 : Int32))) <<< ((((((a1 &&& (3 : Int32)) * (4 : Int32)) + a2) * (4 : Int32))).toInt64 &&& 63))), rfl, h⟩
theorem c12_in (a1 : Int32) (a2 : Int32) (s : St) (Q : Int32 → St → Prop) (h : calI PP 20 16 [.ref 0, .int a1] s (fun v746 s745 => ((v746 = (0 : Int32)) → calI PP 21 16 [.ref 0, .int a2] s745 (fun v752 s751 => ((v752 = (0 : Int32)) → inb 32 a1 ∧ (((gI s751 2 (ix a1)) = (0 : Int32)) → Q (-1 : Int32) s751) ∧ (¬ ((gI s751 2 (ix a1)) = (0 : Int32)) → inb 128 ((a1 * (4 : Int32)) + a2) ∧ Q (gI s751 1 (ix ((a1 * (4 : Int32)) + a2))) s751)) ∧ (¬ (v752 = (0 : Int32)) → Q (-4 : Int32) s751))) ∧ (¬ (v746 = (0 : Int32)) → Q (-3 : Int32) s745))) : calI PP 12 16 [.ref 0, .int a1, .int a2] s Q := by
  refine cal_of (me := cm12) (ls := [some (.ref 0), some (.int a1), some (.int a2)]) rfl (Nat.le_of_ble_eq_true rfl) rfl ?_
  refine wpc_sl (n := 2) (c' := 16) (pc' := 2) (ls' := [some (.ref 0), some (.int a1), some (.int a2)]) (st' := [.int a1, .ref 0]) (s' := s) rfl ?_
  refine wpc_callI (m' := 20) (me' := cm20) (as := [.int a1]) (r := []) rfl rfl rfl rfl rfl ⟨by decide, (by first | decide | exact Nat.le_of_ble_eq_true rfl), (by first | decide | exact Nat.le_of_ble_eq_true rfl), rfl⟩ (calI.mono h fun v746 s745 h747 => ?_)
  refine wpc_if (a := 11) (b := 8) rfl (by decide) rfl rfl (wpc_br (p := v746 = (0 : Int32)) ⟨fun hc748 => ?_, fun hc748 => ?_⟩)
  · have h749 := h747.1 hc748
    refine wpc_sl (n := 2) (c' := 16) (pc' := 13) (ls' := [some (.ref 0), some (.int a1), some (.int a2)]) (st' := [.int a2, .ref 0]) (s' := s745) rfl ?_
    refine wpc_callI (m' := 21) (me' := cm21) (as := [.int a2]) (r := []) rfl rfl rfl rfl rfl ⟨by decide, (by first | decide | exact Nat.le_of_ble_eq_true rfl), (by first | decide | exact Nat.le_of_ble_eq_true rfl), rfl⟩ (calI.mono h749 fun v752 s751 h753 => ?_)
    refine wpc_if (a := 22) (b := 19) rfl (by decide) rfl rfl (wpc_br (p := v752 = (0 : Int32)) ⟨fun hc754 => ?_, fun hc754 => ?_⟩)
    · have h755 := h753.1 hc754
      refine wpc_sl (n := 3) (c' := 16) (pc' := 27) (ls' := [some (.ref 0), some (.int a1), some (.int a2)]) (st' := [.int a1, .ref 2]) (s' := s751) rfl ?_
      refine wpc_ldaZ (a := 1) (N := 32) (v := (gI s751 2 (ix a1))) rfl rfl (by decide) h755.1 rfl ?_
      have h757 := h755.2
      refine wpc_if (a := 33) (b := 31) rfl (by decide) rfl rfl (wpc_br (p := (gI s751 2 (ix a1)) = (0 : Int32)) ⟨fun hc758 => ?_, fun hc758 => ?_⟩)
      · have h759 := h757.1 hc758
        refine wpc_sl (n := 1) (c' := 16) (pc' := 32) (ls' := [some (.ref 0), some (.int a1), some (.int a2)]) (st' := [.int (-1 : Int32)]) (s' := s751) rfl ?_
        exact wpc_ret rfl rfl (fun q => absurd q (by decide)) rfl ⟨(-1 : Int32), rfl, h759⟩
      · have h760 := h757.2 hc758
        refine wpc_sl (n := 7) (c' := 16) (pc' := 42) (ls' := [some (.ref 0), some (.int a1), some (.int a2)]) (st' := [.int ((a1 * (4 : Int32)) + a2), .ref 1]) (s' := s751) rfl ?_
        refine wpc_ldaI (a := 0) (N := 128) (v := (gI s751 1 (ix ((a1 * (4 : Int32)) + a2)))) rfl rfl (by decide) h760.1 rfl ?_
        have h761 := h760.2
        exact wpc_ret rfl rfl (fun q => absurd q (by decide)) rfl ⟨(gI s751 1 (ix ((a1 * (4 : Int32)) + a2))), rfl, h761⟩
    · have h756 := h753.2 hc754
      refine wpc_sl (n := 1) (c' := 16) (pc' := 21) (ls' := [some (.ref 0), some (.int a1), some (.int a2)]) (st' := [.int (-4 : Int32)]) (s' := s751) rfl ?_
      exact wpc_ret rfl rfl (fun q => absurd q (by decide)) rfl ⟨(-4 : Int32), rfl, h756⟩
  · have h750 := h747.2 hc748
    refine wpc_sl (n := 1) (c' := 16) (pc' := 10) (ls' := [some (.ref 0), some (.int a1), some (.int a2)]) (st' := [.int (-3 : Int32)]) (s' := s745) rfl ?_
    exact wpc_ret rfl rfl (fun q => absurd q (by decide)) rfl ⟨(-3 : Int32), rfl, h750⟩
theorem l0_in (N : Nat) (sg : Nat → Int32)   (Q : Int32 → Wd → Prop) (h : lalI PP QQ (some (N, sg)) 2 [.ref 0, .int (0 : Int32)] W0 (fun v2 w1 => w1 = W0 ∧ (calV PP 0 0 [.ref 0, .int (8 : Int32), .int ((2 : Int32) + (v2 &&& (3 : Int32))), .int ((1 : Int32) + ((XT.ushr v2 (2 : Int32)) &&& (3 : Int32)))] s0 (fun s4 => wplI PP QQ (some (N, sg)) 0 lm0 42 [some (.ref 0), none, some (.int ((1 : Int32) + ((XT.ushr v2 (2 : Int32)) &&& (3 : Int32)))), some (.ref 1), some (.long (0 : Int64)), none, some (.long (0 : Int64)), none, some (.int (0 : Int32)), some (.int (1 : Int32)), none, none, none, none, none, none, none, none, none, none] [] (W1 s4) Q)))) : lalI PP QQ (some (N, sg)) 0 [.ref 0] W0 Q := by
  refine lal_of (me := lm0) (ls := [some (.ref 0), none, none, none, none, none, none, none, none, none, none, none, none, none, none, none, none, none, none, none]) rfl (Nat.le_of_ble_eq_true rfl) rfl ?_
  refine wpl_sl (n := 2) (pc' := 2) (ls' := [some (.ref 0), none, none, none, none, none, none, none, none, none, none, none, none, none, none, none, none, none, none, none]) (st' := [.int (0 : Int32), .ref 0]) rfl ?_
  refine wpl_stat (m' := 2) (me' := lm2) (as := [.ref 0, .int (0 : Int32)]) (r := []) rfl rfl rfl rfl rfl ⟨(by first | decide | exact Nat.le_of_ble_eq_true rfl), (by first | decide | exact Nat.le_of_ble_eq_true rfl), (by first | decide | exact Nat.le_of_ble_eq_true rfl), (by first | decide | exact Nat.le_of_ble_eq_true rfl), rfl⟩ (lal_I (lalI.mono h fun v2 w1 hh => ?_))
  obtain ⟨rfl, h3⟩ := hh
  refine wpl_sl (n := 5) (pc' := 10) (ls' := [some (.ref 0), some (.int v2), none, none, none, none, none, none, none, none, none, none, none, none, none, none, none, none, none, none]) (st' := [.int (XT.ushr v2 (2 : Int32)), .int (1 : Int32)]) rfl ?_
  refine wpl_sl (n := 4) (pc' := 14) (ls' := [some (.ref 0), some (.int v2), some (.int ((1 : Int32) + ((XT.ushr v2 (2 : Int32)) &&& (3 : Int32)))), none, none, none, none, none, none, none, none, none, none, none, none, none, none, none, none, none]) (st' := []) rfl ?_
  refine wpl_new0 rfl rfl (by decide) (by decide) ?_
  refine wpl_sl (n := 8) (pc' := 26) (ls' := [some (.ref 0), some (.int v2), some (.int ((1 : Int32) + ((XT.ushr v2 (2 : Int32)) &&& (3 : Int32)))), none, none, none, none, none, none, none, none, none, none, none, none, none, none, none, none, none]) (st' := [.int ((1 : Int32) + ((XT.ushr v2 (2 : Int32)) &&& (3 : Int32))), .int ((2 : Int32) + (v2 &&& (3 : Int32))), .int (8 : Int32), .ref 1, .ref 1]) rfl ?_
  refine wpl_ctor0 (me' := cm0) (as := [.int (8 : Int32), .int ((2 : Int32) + (v2 &&& (3 : Int32))), .int ((1 : Int32) + ((XT.ushr v2 (2 : Int32)) &&& (3 : Int32)))]) (r := [.ref 1]) rfl rfl rfl rfl rfl ⟨by decide, by decide, rfl, by decide, by decide⟩ (calV.mono h3 fun s4 h5 => ?_)
  refine wpl_sl (n := 5) (pc' := 36) (ls' := [some (.ref 0), some (.int v2), some (.int ((1 : Int32) + ((XT.ushr v2 (2 : Int32)) &&& (3 : Int32)))), some (.ref 1), some (.long (0 : Int64)), none, some (.long (0 : Int64)), none, none, none, none, none, none, none, none, none, none, none, none, none]) (st' := []) rfl ?_
  refine wpl_sl (n := 4) (pc' := 42) (ls' := [some (.ref 0), some (.int v2), some (.int ((1 : Int32) + ((XT.ushr v2 (2 : Int32)) &&& (3 : Int32)))), some (.ref 1), some (.long (0 : Int64)), none, some (.long (0 : Int64)), none, some (.int (0 : Int32)), some (.int (1 : Int32)), none, none, none, none, none, none, none, none, none, none]) (st' := []) rfl ?_
  exact wpl_lle (ls := [some (.ref 0), none, some (.int ((1 : Int32) + ((XT.ushr v2 (2 : Int32)) &&& (3 : Int32)))), some (.ref 1), some (.long (0 : Int64)), none, some (.long (0 : Int64)), none, some (.int (0 : Int32)), some (.int (1 : Int32)), none, none, none, none, none, none, none, none, none, none]) ⟨rfl, rfl, rfl, rfl, rfl, rfl, rfl, trivial⟩ h5
theorem l0_42 (N : Nat) (sg : Nat → Int32) (x2 : Int32) (x4 : Int64) (x6 : Int64) (x8 : Int32) (x9 : Int32)  (Q : Int32 → Wd → Prop) (h : ((x9 < (Int32.ofNat N)) → lalI PP QQ (some (N, sg)) 2 [.ref 0, .int x9] (W1 s) (fun v10 w9 => ∃ s12, w9 = W1 s12 ∧ (lalI PP QQ (some (N, sg)) 2 [.ref 0, .int (x9 + (1 : Int32))] (W1 s12) (fun v14 w13 => ∃ s16, w13 = W1 s16 ∧ ((¬ (x2 = (0 : Int32))) ∧ (((v10 &&& (7 : Int32)) = (0 : Int32)) → wplI PP QQ (some (N, sg)) 0 lm0 138 [some (.ref 0), none, some (.int x2), some (.ref 1), some (.long x4), none, some (.long x6), none, some (.int x8), some (.int x9), none, none, none, some (.int (((XT.ushr v10 (3 : Int32)) &&& (3 : Int32)) % x2)), some (.int ((XT.ushr v10 (5 : Int32)) &&& (7 : Int32))), some (.int ((XT.ushr v10 (8 : Int32)) &&& (3 : Int32))), none, none, none, none] [] (W1 s16) Q) ∧ (¬ ((v10 &&& (7 : Int32)) = (0 : Int32)) → (((v10 &&& (7 : Int32)) = (1 : Int32)) → wplI PP QQ (some (N, sg)) 0 lm0 138 [some (.ref 0), none, some (.int x2), some (.ref 1), some (.long x4), none, some (.long x6), none, some (.int x8), some (.int x9), none, none, none, some (.int (((XT.ushr v10 (3 : Int32)) &&& (3 : Int32)) % x2)), some (.int ((XT.ushr v10 (5 : Int32)) &&& (7 : Int32))), some (.int ((XT.ushr v10 (8 : Int32)) &&& (3 : Int32))), none, none, none, none] [] (W1 s16) Q) ∧ (¬ ((v10 &&& (7 : Int32)) = (1 : Int32)) → (((v10 &&& (7 : Int32)) = (2 : Int32)) → wplI PP QQ (some (N, sg)) 0 lm0 176 [some (.ref 0), none, some (.int x2), some (.ref 1), some (.long x4), none, some (.long x6), none, some (.int x8), some (.int x9), none, none, none, some (.int (((XT.ushr v10 (3 : Int32)) &&& (3 : Int32)) % x2)), some (.int ((XT.ushr v10 (5 : Int32)) &&& (7 : Int32))), some (.int ((XT.ushr v10 (8 : Int32)) &&& (3 : Int32))), none, some (.int ((v14 &&& (15 : Int32)) ||| ((v14 >>> ((4 : Int32) &&& 31)) <<< ((16 : Int32) &&& 31)))), none, none] [] (W1 s16) Q) ∧ (¬ ((v10 &&& (7 : Int32)) = (2 : Int32)) → (((v10 &&& (7 : Int32)) = (3 : Int32)) → wplI PP QQ (some (N, sg)) 0 lm0 176 [some (.ref 0), none, some (.int x2), some (.ref 1), some (.long x4), none, some (.long x6), none, some (.int x8), some (.int x9), none, none, none, some (.int (((XT.ushr v10 (3 : Int32)) &&& (3 : Int32)) % x2)), some (.int ((XT.ushr v10 (5 : Int32)) &&& (7 : Int32))), some (.int ((XT.ushr v10 (8 : Int32)) &&& (3 : Int32))), none, some (.int ((v14 &&& (15 : Int32)) ||| ((v14 >>> ((4 : Int32) &&& 31)) <<< ((16 : Int32) &&& 31)))), none, none] [] (W1 s16) Q) ∧ (¬ ((v10 &&& (7 : Int32)) = (3 : Int32)) → (((v10 &&& (7 : Int32)) = (4 : Int32)) → calI PP 7 16 [.ref 0, .int (((XT.ushr v10 (3 : Int32)) &&& (3 : Int32)) % x2), .int ((XT.ushr v10 (5 : Int32)) &&& (7 : Int32)), .int ((v14 &&& (15 : Int32)) ||| ((v14 >>> ((4 : Int32) &&& 31)) <<< ((16 : Int32) &&& 31)))] s16 (fun v34 s33 => wplI PP QQ (some (N, sg)) 0 lm0 258 [some (.ref 0), none, some (.int x2), some (.ref 1), some (.long x4), none, some (.long x6), none, some (.int x8), some (.int x9), none, none, none, none, some (.int ((XT.ushr v10 (5 : Int32)) &&& (7 : Int32))), none, none, some (.int ((v14 &&& (15 : Int32)) ||| ((v14 >>> ((4 : Int32) &&& 31)) <<< ((16 : Int32) &&& 31)))), some (.int (0 : Int32)), none] [] (W1 s33) Q)) ∧ (¬ ((v10 &&& (7 : Int32)) = (4 : Int32)) → (((v10 &&& (7 : Int32)) = (5 : Int32)) → calI PP 8 16 [.ref 0, .int (((XT.ushr v10 (3 : Int32)) &&& (3 : Int32)) % x2), .int ((XT.ushr v10 (5 : Int32)) &&& (7 : Int32)), .int ((XT.ushr v10 (10 : Int32)) &&& (7 : Int32))] s16 (fun v40 s39 => wplI PP QQ (some (N, sg)) 0 lm0 339 [some (.ref 0), none, some (.int x2), some (.ref 1), some (.long x4), none, some (.long x6), none, some (.int x8), some (.int x9), none, none, none, none, some (.int ((XT.ushr v10 (5 : Int32)) &&& (7 : Int32))), none, some (.int ((XT.ushr v10 (10 : Int32)) &&& (7 : Int32))), none, some (.int (0 : Int32)), none] [] (W1 s39) Q)) ∧ (¬ ((v10 &&& (7 : Int32)) = (5 : Int32)) → (((v10 &&& (7 : Int32)) = (6 : Int32)) → ((((XT.ushr v10 (13 : Int32)) &&& (1 : Int32)) = (0 : Int32)) → calV PP 9 16 [.ref 0, .int ((v14 &&& (127 : Int32)) - (32 : Int32))] s16 (fun s48 => wplI PP QQ (some (N, sg)) 0 lm0 482 [some (.ref 0), none, some (.int x2), some (.ref 1), some (.long x4), none, some (.long x6), none, some (.int x8), some (.int x9), none, none, none, none, none, none, none, none, none, none] [] (W1 s48) Q)) ∧ (¬ (((XT.ushr v10 (13 : Int32)) &&& (1 : Int32)) = (0 : Int32)) → calI PP 10 16 [.ref 0, .int ((XT.ushr v10 (5 : Int32)) &&& (7 : Int32))] s16 (fun v52 s51 => wplI PP QQ (some (N, sg)) 0 lm0 482 [some (.ref 0), none, some (.int x2), some (.ref 1), some (.long x4), none, some (.long x6), none, some (.int (x8 ||| ((1 : Int32) <<< (((XT.ushr v10 (5 : Int32)) &&& (7 : Int32)) &&& 31)))), some (.int x9), none, none, none, none, none, none, none, none, none, none] [] (W1 s51) Q))) ∧ (¬ ((v10 &&& (7 : Int32)) = (6 : Int32)) → calV PP 11 16 [.ref 0] s16 (fun s54 => calI PP 13 16 [.ref 0] s54 (fun v58 s57 => ((v58 = (0 : Int32)) → wplI PP QQ (some (N, sg)) 0 lm0 482 [some (.ref 0), none, some (.int x2), some (.ref 1), some (.long x4), none, some (.long x6), none, some (.int (255 : Int32)), some (.int x9), none, none, none, none, none, none, none, none, none, none] [] (W1 s57) Q) ∧ (¬ (v58 = (0 : Int32)) → Q (0 : Int32) (W1 s57)))))))))))))))) ∧ (¬ (x9 < (Int32.ofNat N)) → Q (1 : Int32) (W1 s))) : wplI PP QQ (some (N, sg)) 0 lm0 42 [some (.ref 0), none, some (.int x2), some (.ref 1), some (.long x4), none, some (.long x6), none, some (.int x8), some (.int x9), none, none, none, none, none, none, none, none, none, none] [] (W1 s) Q := by
  refine wpl_sl (n := 2) (pc' := 45) (ls' := [some (.ref 0), none, some (.int x2), some (.ref 1), some (.long x4), none, some (.long x6), none, some (.int x8), some (.int x9), none, none, none, none, none, none, none, none, none, none]) (st' := [.ref 0, .int x9]) rfl ?_
  refine wpl_len rfl ?_
  refine wpl_icmp (a := 553) (b := 49) rfl (by decide) rfl rfl (wpl_br (p := x9 < (Int32.ofNat N)) ⟨fun hc6 => ?_, fun hc6 => ?_⟩)
  · have h7 := h.1 hc6
    refine wpl_sl (n := 2) (pc' := 52) (ls' := [some (.ref 0), none, some (.int x2), some (.ref 1), some (.long x4), none, some (.long x6), none, some (.int x8), some (.int x9), none, none, none, none, none, none, none, none, none, none]) (st' := [.int x9, .ref 0]) rfl ?_
    refine wpl_stat (m' := 2) (me' := lm2) (as := [.ref 0, .int x9]) (r := []) rfl rfl rfl rfl rfl ⟨(by first | decide | exact Nat.le_of_ble_eq_true rfl), (by first | decide | exact Nat.le_of_ble_eq_true rfl), (by first | decide | exact Nat.le_of_ble_eq_true rfl), (by first | decide | exact Nat.le_of_ble_eq_true rfl), rfl⟩ (lal_I (lalI.mono h7 fun v10 w9 hh => ?_))
    obtain ⟨s12, rfl, h11⟩ := hh
    refine wpl_sl (n := 5) (pc' := 62) (ls' := [some (.ref 0), none, some (.int x2), some (.ref 1), some (.long x4), none, some (.long x6), none, some (.int x8), some (.int x9), some (.int v10), none, none, none, none, none, none, none, none, none]) (st' := [.int (x9 + (1 : Int32)), .ref 0]) rfl ?_
    refine wpl_stat (m' := 2) (me' := lm2) (as := [.ref 0, .int (x9 + (1 : Int32))]) (r := []) rfl rfl rfl rfl rfl ⟨(by first | decide | exact Nat.le_of_ble_eq_true rfl), (by first | decide | exact Nat.le_of_ble_eq_true rfl), (by first | decide | exact Nat.le_of_ble_eq_true rfl), (by first | decide | exact Nat.le_of_ble_eq_true rfl), rfl⟩ (lal_I (lalI.mono h11 fun v14 w13 hh => ?_))
    obtain ⟨s16, rfl, h15⟩ := hh
    refine wpl_sl (n := 5) (pc' := 74) (ls' := [some (.ref 0), none, some (.int x2), some (.ref 1), some (.long x4), none, some (.long x6), none, some (.int x8), some (.int x9), some (.int v10), some (.int v14), some (.int (v10 &&& (7 : Int32))), none, none, none, none, none, none, none]) (st' := []) rfl ?_
    refine wpl_sl (n := 5) (pc' := 80) (ls' := [some (.ref 0), none, some (.int x2), some (.ref 1), some (.long x4), none, some (.long x6), none, some (.int x8), some (.int x9), some (.int v10), some (.int v14), some (.int (v10 &&& (7 : Int32))), none, none, none, none, none, none, none]) (st' := [.int ((XT.ushr v10 (3 : Int32)) &&& (3 : Int32))]) rfl ?_
    refine wpl_sl (n := 1) (pc' := 81) (ls' := [some (.ref 0), none, some (.int x2), some (.ref 1), some (.long x4), none, some (.long x6), none, some (.int x8), some (.int x9), some (.int v10), some (.int v14), some (.int (v10 &&& (7 : Int32))), none, none, none, none, none, none, none]) (st' := [.int x2, .int ((XT.ushr v10 (3 : Int32)) &&& (3 : Int32))]) rfl ?_
    refine wpl_irem rfl h15.1 ?_
    have h17 := h15.2
    refine wpl_sl (n := 5) (pc' := 90) (ls' := [some (.ref 0), none, some (.int x2), some (.ref 1), some (.long x4), none, some (.long x6), none, some (.int x8), some (.int x9), some (.int v10), some (.int v14), some (.int (v10 &&& (7 : Int32))), some (.int (((XT.ushr v10 (3 : Int32)) &&& (3 : Int32)) % x2)), none, none, none, none, none, none]) (st' := [.int (7 : Int32), .int (XT.ushr v10 (5 : Int32))]) rfl ?_
    refine wpl_sl (n := 5) (pc' := 98) (ls' := [some (.ref 0), none, some (.int x2), some (.ref 1), some (.long x4), none, some (.long x6), none, some (.int x8), some (.int x9), some (.int v10), some (.int v14), some (.int (v10 &&& (7 : Int32))), some (.int (((XT.ushr v10 (3 : Int32)) &&& (3 : Int32)) % x2)), some (.int ((XT.ushr v10 (5 : Int32)) &&& (7 : Int32))), none, none, none, none, none]) (st' := [.int (XT.ushr v10 (8 : Int32))]) rfl ?_
    refine wpl_sl (n := 5) (pc' := 106) (ls' := [some (.ref 0), none, some (.int x2), some (.ref 1), some (.long x4), none, some (.long x6), none, some (.int x8), some (.int x9), some (.int v10), some (.int v14), some (.int (v10 &&& (7 : Int32))), some (.int (((XT.ushr v10 (3 : Int32)) &&& (3 : Int32)) % x2)), some (.int ((XT.ushr v10 (5 : Int32)) &&& (7 : Int32))), some (.int ((XT.ushr v10 (8 : Int32)) &&& (3 : Int32))), none, none, none, none]) (st' := [.int (10 : Int32), .int v10]) rfl ?_
    refine wpl_sl (n := 5) (pc' := 114) (ls' := [some (.ref 0), none, some (.int x2), some (.ref 1), some (.long x4), none, some (.long x6), none, some (.int x8), some (.int x9), some (.int v10), some (.int v14), some (.int (v10 &&& (7 : Int32))), some (.int (((XT.ushr v10 (3 : Int32)) &&& (3 : Int32)) % x2)), some (.int ((XT.ushr v10 (5 : Int32)) &&& (7 : Int32))), some (.int ((XT.ushr v10 (8 : Int32)) &&& (3 : Int32))), some (.int ((XT.ushr v10 (10 : Int32)) &&& (7 : Int32))), none, none, none]) (st' := [.int v14]) rfl ?_
    refine wpl_sl (n := 5) (pc' := 121) (ls' := [some (.ref 0), none, some (.int x2), some (.ref 1), some (.long x4), none, some (.long x6), none, some (.int x8), some (.int x9), some (.int v10), some (.int v14), some (.int (v10 &&& (7 : Int32))), some (.int (((XT.ushr v10 (3 : Int32)) &&& (3 : Int32)) % x2)), some (.int ((XT.ushr v10 (5 : Int32)) &&& (7 : Int32))), some (.int ((XT.ushr v10 (8 : Int32)) &&& (3 : Int32))), some (.int ((XT.ushr v10 (10 : Int32)) &&& (7 : Int32))), none, none, none]) (st' := [.int (v14 >>> ((4 : Int32) &&& 31)), .int (v14 &&& (15 : Int32))]) rfl ?_
    refine wpl_sl (n := 5) (pc' := 129) (ls' := [some (.ref 0), none, some (.int x2), some (.ref 1), some (.long x4), none, some (.long x6), none, some (.int x8), some (.int x9), some (.int v10), some (.int v14), some (.int (v10 &&& (7 : Int32))), some (.int (((XT.ushr v10 (3 : Int32)) &&& (3 : Int32)) % x2)), some (.int ((XT.ushr v10 (5 : Int32)) &&& (7 : Int32))), some (.int ((XT.ushr v10 (8 : Int32)) &&& (3 : Int32))), some (.int ((XT.ushr v10 (10 : Int32)) &&& (7 : Int32))), some (.int ((v14 &&& (15 : Int32)) ||| ((v14 >>> ((4 : Int32) &&& 31)) <<< ((16 : Int32) &&& 31)))), none, none]) (st' := [.int (v10 &&& (7 : Int32))]) rfl ?_
    refine wpl_if (a := 138) (b := 132) rfl (by decide) rfl rfl (wpl_br (p := (v10 &&& (7 : Int32)) = (0 : Int32)) ⟨fun hc18 => ?_, fun hc18 => ?_⟩)
    · have h19 := h17.1 hc18
      exact wpl_lle (ls := [some (.ref 0), none, some (.int x2), some (.ref 1), some (.long x4), none, some (.long x6), none, some (.int x8), some (.int x9), none, none, none, some (.int (((XT.ushr v10 (3 : Int32)) &&& (3 : Int32)) % x2)), some (.int ((XT.ushr v10 (5 : Int32)) &&& (7 : Int32))), some (.int ((XT.ushr v10 (8 : Int32)) &&& (3 : Int32))), none, none, none, none]) ⟨rfl, rfl, rfl, rfl, rfl, rfl, rfl, rfl, rfl, rfl, trivial⟩ h19
    · have h20 := h17.2 hc18
      refine wpl_sl (n := 2) (pc' := 135) (ls' := [some (.ref 0), none, some (.int x2), some (.ref 1), some (.long x4), none, some (.long x6), none, some (.int x8), some (.int x9), some (.int v10), some (.int v14), some (.int (v10 &&& (7 : Int32))), some (.int (((XT.ushr v10 (3 : Int32)) &&& (3 : Int32)) % x2)), some (.int ((XT.ushr v10 (5 : Int32)) &&& (7 : Int32))), some (.int ((XT.ushr v10 (8 : Int32)) &&& (3 : Int32))), some (.int ((XT.ushr v10 (10 : Int32)) &&& (7 : Int32))), some (.int ((v14 &&& (15 : Int32)) ||| ((v14 >>> ((4 : Int32) &&& 31)) <<< ((16 : Int32) &&& 31)))), none, none]) (st' := [.int (1 : Int32), .int (v10 &&& (7 : Int32))]) rfl ?_
      refine wpl_icmp (a := 164) (b := 138) rfl (by decide) rfl rfl (wpl_br (p := (v10 &&& (7 : Int32)) = (1 : Int32)) ⟨fun hc21 => ?_, fun hc21 => ?_⟩)
      · have h22 := h20.1 hc21
        exact wpl_lle (ls := [some (.ref 0), none, some (.int x2), some (.ref 1), some (.long x4), none, some (.long x6), none, some (.int x8), some (.int x9), none, none, none, some (.int (((XT.ushr v10 (3 : Int32)) &&& (3 : Int32)) % x2)), some (.int ((XT.ushr v10 (5 : Int32)) &&& (7 : Int32))), some (.int ((XT.ushr v10 (8 : Int32)) &&& (3 : Int32))), none, none, none, none]) ⟨rfl, rfl, rfl, rfl, rfl, rfl, rfl, rfl, rfl, rfl, trivial⟩ h22
      · have h23 := h20.2 hc21
        refine wpl_sl (n := 2) (pc' := 167) (ls' := [some (.ref 0), none, some (.int x2), some (.ref 1), some (.long x4), none, some (.long x6), none, some (.int x8), some (.int x9), some (.int v10), some (.int v14), some (.int (v10 &&& (7 : Int32))), some (.int (((XT.ushr v10 (3 : Int32)) &&& (3 : Int32)) % x2)), some (.int ((XT.ushr v10 (5 : Int32)) &&& (7 : Int32))), some (.int ((XT.ushr v10 (8 : Int32)) &&& (3 : Int32))), some (.int ((XT.ushr v10 (10 : Int32)) &&& (7 : Int32))), some (.int ((v14 &&& (15 : Int32)) ||| ((v14 >>> ((4 : Int32) &&& 31)) <<< ((16 : Int32) &&& 31)))), none, none]) (st' := [.int (2 : Int32), .int (v10 &&& (7 : Int32))]) rfl ?_
        refine wpl_icmp (a := 176) (b := 170) rfl (by decide) rfl rfl (wpl_br (p := (v10 &&& (7 : Int32)) = (2 : Int32)) ⟨fun hc24 => ?_, fun hc24 => ?_⟩)
        · have h25 := h23.1 hc24
          exact wpl_lle (ls := [some (.ref 0), none, some (.int x2), some (.ref 1), some (.long x4), none, some (.long x6), none, some (.int x8), some (.int x9), none, none, none, some (.int (((XT.ushr v10 (3 : Int32)) &&& (3 : Int32)) % x2)), some (.int ((XT.ushr v10 (5 : Int32)) &&& (7 : Int32))), some (.int ((XT.ushr v10 (8 : Int32)) &&& (3 : Int32))), none, some (.int ((v14 &&& (15 : Int32)) ||| ((v14 >>> ((4 : Int32) &&& 31)) <<< ((16 : Int32) &&& 31)))), none, none]) ⟨rfl, rfl, rfl, rfl, rfl, rfl, rfl, rfl, rfl, rfl, rfl, trivial⟩ h25
        · have h26 := h23.2 hc24
          refine wpl_sl (n := 2) (pc' := 173) (ls' := [some (.ref 0), none, some (.int x2), some (.ref 1), some (.long x4), none, some (.long x6), none, some (.int x8), some (.int x9), some (.int v10), some (.int v14), some (.int (v10 &&& (7 : Int32))), some (.int (((XT.ushr v10 (3 : Int32)) &&& (3 : Int32)) % x2)), some (.int ((XT.ushr v10 (5 : Int32)) &&& (7 : Int32))), some (.int ((XT.ushr v10 (8 : Int32)) &&& (3 : Int32))), some (.int ((XT.ushr v10 (10 : Int32)) &&& (7 : Int32))), some (.int ((v14 &&& (15 : Int32)) ||| ((v14 >>> ((4 : Int32) &&& 31)) <<< ((16 : Int32) &&& 31)))), none, none]) (st' := [.int (3 : Int32), .int (v10 &&& (7 : Int32))]) rfl ?_
          refine wpl_icmp (a := 238) (b := 176) rfl (by decide) rfl rfl (wpl_br (p := (v10 &&& (7 : Int32)) = (3 : Int32)) ⟨fun hc27 => ?_, fun hc27 => ?_⟩)
          · have h28 := h26.1 hc27
            exact wpl_lle (ls := [some (.ref 0), none, some (.int x2), some (.ref 1), some (.long x4), none, some (.long x6), none, some (.int x8), some (.int x9), none, none, none, some (.int (((XT.ushr v10 (3 : Int32)) &&& (3 : Int32)) % x2)), some (.int ((XT.ushr v10 (5 : Int32)) &&& (7 : Int32))), some (.int ((XT.ushr v10 (8 : Int32)) &&& (3 : Int32))), none, some (.int ((v14 &&& (15 : Int32)) ||| ((v14 >>> ((4 : Int32) &&& 31)) <<< ((16 : Int32) &&& 31)))), none, none]) ⟨rfl, rfl, rfl, rfl, rfl, rfl, rfl, rfl, rfl, rfl, rfl, trivial⟩ h28
          · have h29 := h26.2 hc27
            refine wpl_sl (n := 2) (pc' := 241) (ls' := [some (.ref 0), none, some (.int x2), some (.ref 1), some (.long x4), none, some (.long x6), none, some (.int x8), some (.int x9), some (.int v10), some (.int v14), some (.int (v10 &&& (7 : Int32))), some (.int (((XT.ushr v10 (3 : Int32)) &&& (3 : Int32)) % x2)), some (.int ((XT.ushr v10 (5 : Int32)) &&& (7 : Int32))), some (.int ((XT.ushr v10 (8 : Int32)) &&& (3 : Int32))), some (.int ((XT.ushr v10 (10 : Int32)) &&& (7 : Int32))), some (.int ((v14 &&& (15 : Int32)) ||| ((v14 >>> ((4 : Int32) &&& 31)) <<< ((16 : Int32) &&& 31)))), none, none]) (st' := [.int (4 : Int32), .int (v10 &&& (7 : Int32))]) rfl ?_
            refine wpl_icmp (a := 319) (b := 244) rfl (by decide) rfl rfl (wpl_br (p := (v10 &&& (7 : Int32)) = (4 : Int32)) ⟨fun hc30 => ?_, fun hc30 => ?_⟩)
            · have h31 := h29.1 hc30
              refine wpl_sl (n := 4) (pc' := 251) (ls' := [some (.ref 0), none, some (.int x2), some (.ref 1), some (.long x4), none, some (.long x6), none, some (.int x8), some (.int x9), some (.int v10), some (.int v14), some (.int (v10 &&& (7 : Int32))), some (.int (((XT.ushr v10 (3 : Int32)) &&& (3 : Int32)) % x2)), some (.int ((XT.ushr v10 (5 : Int32)) &&& (7 : Int32))), some (.int ((XT.ushr v10 (8 : Int32)) &&& (3 : Int32))), some (.int ((XT.ushr v10 (10 : Int32)) &&& (7 : Int32))), some (.int ((v14 &&& (15 : Int32)) ||| ((v14 >>> ((4 : Int32) &&& 31)) <<< ((16 : Int32) &&& 31)))), none, none]) (st' := [.int ((v14 &&& (15 : Int32)) ||| ((v14 >>> ((4 : Int32) &&& 31)) <<< ((16 : Int32) &&& 31))), .int ((XT.ushr v10 (5 : Int32)) &&& (7 : Int32)), .int (((XT.ushr v10 (3 : Int32)) &&& (3 : Int32)) % x2), .ref 1]) rfl ?_
              refine wpl_v1 (m' := 7) (me' := cm7) (as := [.int (((XT.ushr v10 (3 : Int32)) &&& (3 : Int32)) % x2), .int ((XT.ushr v10 (5 : Int32)) &&& (7 : Int32)), .int ((v14 &&& (15 : Int32)) ||| ((v14 >>> ((4 : Int32) &&& 31)) <<< ((16 : Int32) &&& 31)))]) (r := []) rfl rfl rfl rfl rfl ⟨by decide, (by first | decide | exact Nat.le_of_ble_eq_true rfl), (by first | decide | exact Nat.le_of_ble_eq_true rfl), rfl⟩ (cal_I (calI.mono h31 fun v34 s33 h35 => ?_))
              refine wpl_sl (n := 3) (pc' := 258) (ls' := [some (.ref 0), none, some (.int x2), some (.ref 1), some (.long x4), none, some (.long x6), none, some (.int x8), some (.int x9), some (.int v10), some (.int v14), some (.int (v10 &&& (7 : Int32))), some (.int (((XT.ushr v10 (3 : Int32)) &&& (3 : Int32)) % x2)), some (.int ((XT.ushr v10 (5 : Int32)) &&& (7 : Int32))), some (.int ((XT.ushr v10 (8 : Int32)) &&& (3 : Int32))), some (.int ((XT.ushr v10 (10 : Int32)) &&& (7 : Int32))), some (.int ((v14 &&& (15 : Int32)) ||| ((v14 >>> ((4 : Int32) &&& 31)) <<< ((16 : Int32) &&& 31)))), some (.int (0 : Int32)), none]) (st' := []) rfl ?_
              exact wpl_lle (ls := [some (.ref 0), none, some (.int x2), some (.ref 1), some (.long x4), none, some (.long x6), none, some (.int x8), some (.int x9), none, none, none, none, some (.int ((XT.ushr v10 (5 : Int32)) &&& (7 : Int32))), none, none, some (.int ((v14 &&& (15 : Int32)) ||| ((v14 >>> ((4 : Int32) &&& 31)) <<< ((16 : Int32) &&& 31)))), some (.int (0 : Int32)), none]) ⟨rfl, rfl, rfl, rfl, rfl, rfl, rfl, rfl, rfl, rfl, trivial⟩ h35
            · have h32 := h29.2 hc30
              refine wpl_sl (n := 2) (pc' := 322) (ls' := [some (.ref 0), none, some (.int x2), some (.ref 1), some (.long x4), none, some (.long x6), none, some (.int x8), some (.int x9), some (.int v10), some (.int v14), some (.int (v10 &&& (7 : Int32))), some (.int (((XT.ushr v10 (3 : Int32)) &&& (3 : Int32)) % x2)), some (.int ((XT.ushr v10 (5 : Int32)) &&& (7 : Int32))), some (.int ((XT.ushr v10 (8 : Int32)) &&& (3 : Int32))), some (.int ((XT.ushr v10 (10 : Int32)) &&& (7 : Int32))), some (.int ((v14 &&& (15 : Int32)) ||| ((v14 >>> ((4 : Int32) &&& 31)) <<< ((16 : Int32) &&& 31)))), none, none]) (st' := [.int (5 : Int32), .int (v10 &&& (7 : Int32))]) rfl ?_
              refine wpl_icmp (a := 413) (b := 325) rfl (by decide) rfl rfl (wpl_br (p := (v10 &&& (7 : Int32)) = (5 : Int32)) ⟨fun hc36 => ?_, fun hc36 => ?_⟩)
              · have h37 := h32.1 hc36
                refine wpl_sl (n := 4) (pc' := 332) (ls' := [some (.ref 0), none, some (.int x2), some (.ref 1), some (.long x4), none, some (.long x6), none, some (.int x8), some (.int x9), some (.int v10), some (.int v14), some (.int (v10 &&& (7 : Int32))), some (.int (((XT.ushr v10 (3 : Int32)) &&& (3 : Int32)) % x2)), some (.int ((XT.ushr v10 (5 : Int32)) &&& (7 : Int32))), some (.int ((XT.ushr v10 (8 : Int32)) &&& (3 : Int32))), some (.int ((XT.ushr v10 (10 : Int32)) &&& (7 : Int32))), some (.int ((v14 &&& (15 : Int32)) ||| ((v14 >>> ((4 : Int32) &&& 31)) <<< ((16 : Int32) &&& 31)))), none, none]) (st' := [.int ((XT.ushr v10 (10 : Int32)) &&& (7 : Int32)), .int ((XT.ushr v10 (5 : Int32)) &&& (7 : Int32)), .int (((XT.ushr v10 (3 : Int32)) &&& (3 : Int32)) % x2), .ref 1]) rfl ?_
                refine wpl_v1 (m' := 8) (me' := cm8) (as := [.int (((XT.ushr v10 (3 : Int32)) &&& (3 : Int32)) % x2), .int ((XT.ushr v10 (5 : Int32)) &&& (7 : Int32)), .int ((XT.ushr v10 (10 : Int32)) &&& (7 : Int32))]) (r := []) rfl rfl rfl rfl rfl ⟨by decide, (by first | decide | exact Nat.le_of_ble_eq_true rfl), (by first | decide | exact Nat.le_of_ble_eq_true rfl), rfl⟩ (cal_I (calI.mono h37 fun v40 s39 h41 => ?_))
                refine wpl_sl (n := 3) (pc' := 339) (ls' := [some (.ref 0), none, some (.int x2), some (.ref 1), some (.long x4), none, some (.long x6), none, some (.int x8), some (.int x9), some (.int v10), some (.int v14), some (.int (v10 &&& (7 : Int32))), some (.int (((XT.ushr v10 (3 : Int32)) &&& (3 : Int32)) % x2)), some (.int ((XT.ushr v10 (5 : Int32)) &&& (7 : Int32))), some (.int ((XT.ushr v10 (8 : Int32)) &&& (3 : Int32))), some (.int ((XT.ushr v10 (10 : Int32)) &&& (7 : Int32))), some (.int ((v14 &&& (15 : Int32)) ||| ((v14 >>> ((4 : Int32) &&& 31)) <<< ((16 : Int32) &&& 31)))), some (.int (0 : Int32)), none]) (st' := []) rfl ?_
                exact wpl_lle (ls := [some (.ref 0), none, some (.int x2), some (.ref 1), some (.long x4), none, some (.long x6), none, some (.int x8), some (.int x9), none, none, none, none, some (.int ((XT.ushr v10 (5 : Int32)) &&& (7 : Int32))), none, some (.int ((XT.ushr v10 (10 : Int32)) &&& (7 : Int32))), none, some (.int (0 : Int32)), none]) ⟨rfl, rfl, rfl, rfl, rfl, rfl, rfl, rfl, rfl, rfl, trivial⟩ h41
              · have h38 := h32.2 hc36
                refine wpl_sl (n := 2) (pc' := 417) (ls' := [some (.ref 0), none, some (.int x2), some (.ref 1), some (.long x4), none, some (.long x6), none, some (.int x8), some (.int x9), some (.int v10), some (.int v14), some (.int (v10 &&& (7 : Int32))), some (.int (((XT.ushr v10 (3 : Int32)) &&& (3 : Int32)) % x2)), some (.int ((XT.ushr v10 (5 : Int32)) &&& (7 : Int32))), some (.int ((XT.ushr v10 (8 : Int32)) &&& (3 : Int32))), some (.int ((XT.ushr v10 (10 : Int32)) &&& (7 : Int32))), some (.int ((v14 &&& (15 : Int32)) ||| ((v14 >>> ((4 : Int32) &&& 31)) <<< ((16 : Int32) &&& 31)))), none, none]) (st' := [.int (6 : Int32), .int (v10 &&& (7 : Int32))]) rfl ?_
                refine wpl_icmp (a := 464) (b := 420) rfl (by decide) rfl rfl (wpl_br (p := (v10 &&& (7 : Int32)) = (6 : Int32)) ⟨fun hc42 => ?_, fun hc42 => ?_⟩)
                · have h43 := h38.1 hc42
                  refine wpl_sl (n := 5) (pc' := 427) (ls' := [some (.ref 0), none, some (.int x2), some (.ref 1), some (.long x4), none, some (.long x6), none, some (.int x8), some (.int x9), some (.int v10), some (.int v14), some (.int (v10 &&& (7 : Int32))), some (.int (((XT.ushr v10 (3 : Int32)) &&& (3 : Int32)) % x2)), some (.int ((XT.ushr v10 (5 : Int32)) &&& (7 : Int32))), some (.int ((XT.ushr v10 (8 : Int32)) &&& (3 : Int32))), some (.int ((XT.ushr v10 (10 : Int32)) &&& (7 : Int32))), some (.int ((v14 &&& (15 : Int32)) ||| ((v14 >>> ((4 : Int32) &&& 31)) <<< ((16 : Int32) &&& 31)))), none, none]) (st' := [.int ((XT.ushr v10 (13 : Int32)) &&& (1 : Int32))]) rfl ?_
                  refine wpl_if (a := 445) (b := 430) rfl (by decide) rfl rfl (wpl_br (p := ((XT.ushr v10 (13 : Int32)) &&& (1 : Int32)) = (0 : Int32)) ⟨fun hc45 => ?_, fun hc45 => ?_⟩)
                  · have h46 := h43.1 hc45
                    refine wpl_sl (n := 6) (pc' := 439) (ls' := [some (.ref 0), none, some (.int x2), some (.ref 1), some (.long x4), none, some (.long x6), none, some (.int x8), some (.int x9), some (.int v10), some (.int v14), some (.int (v10 &&& (7 : Int32))), some (.int (((XT.ushr v10 (3 : Int32)) &&& (3 : Int32)) % x2)), some (.int ((XT.ushr v10 (5 : Int32)) &&& (7 : Int32))), some (.int ((XT.ushr v10 (8 : Int32)) &&& (3 : Int32))), some (.int ((XT.ushr v10 (10 : Int32)) &&& (7 : Int32))), some (.int ((v14 &&& (15 : Int32)) ||| ((v14 >>> ((4 : Int32) &&& 31)) <<< ((16 : Int32) &&& 31)))), none, none]) (st' := [.int ((v14 &&& (127 : Int32)) - (32 : Int32)), .ref 1]) rfl ?_
                    refine wpl_v1 (m' := 9) (me' := cm9) (as := [.int ((v14 &&& (127 : Int32)) - (32 : Int32))]) (r := []) rfl rfl rfl rfl rfl ⟨by decide, (by first | decide | exact Nat.le_of_ble_eq_true rfl), (by first | decide | exact Nat.le_of_ble_eq_true rfl), rfl⟩ (cal_V (calV.mono h46 fun s48 h50 => ?_))
                    refine wpl_sl (n := 1) (pc' := 482) (ls' := [some (.ref 0), none, some (.int x2), some (.ref 1), some (.long x4), none, some (.long x6), none, some (.int x8), some (.int x9), some (.int v10), some (.int v14), some (.int (v10 &&& (7 : Int32))), some (.int (((XT.ushr v10 (3 : Int32)) &&& (3 : Int32)) % x2)), some (.int ((XT.ushr v10 (5 : Int32)) &&& (7 : Int32))), some (.int ((XT.ushr v10 (8 : Int32)) &&& (3 : Int32))), some (.int ((XT.ushr v10 (10 : Int32)) &&& (7 : Int32))), some (.int ((v14 &&& (15 : Int32)) ||| ((v14 >>> ((4 : Int32) &&& 31)) <<< ((16 : Int32) &&& 31)))), none, none]) (st' := []) rfl ?_
                    exact wpl_lle (ls := [some (.ref 0), none, some (.int x2), some (.ref 1), some (.long x4), none, some (.long x6), none, some (.int x8), some (.int x9), none, none, none, none, none, none, none, none, none, none]) ⟨rfl, rfl, rfl, rfl, rfl, rfl, rfl, trivial⟩ h50
                  · have h47 := h43.2 hc45
                    refine wpl_sl (n := 2) (pc' := 448) (ls' := [some (.ref 0), none, some (.int x2), some (.ref 1), some (.long x4), none, some (.long x6), none, some (.int x8), some (.int x9), some (.int v10), some (.int v14), some (.int (v10 &&& (7 : Int32))), some (.int (((XT.ushr v10 (3 : Int32)) &&& (3 : Int32)) % x2)), some (.int ((XT.ushr v10 (5 : Int32)) &&& (7 : Int32))), some (.int ((XT.ushr v10 (8 : Int32)) &&& (3 : Int32))), some (.int ((XT.ushr v10 (10 : Int32)) &&& (7 : Int32))), some (.int ((v14 &&& (15 : Int32)) ||| ((v14 >>> ((4 : Int32) &&& 31)) <<< ((16 : Int32) &&& 31)))), none, none]) (st' := [.int ((XT.ushr v10 (5 : Int32)) &&& (7 : Int32)), .ref 1]) rfl ?_
                    refine wpl_v1 (m' := 10) (me' := cm10) (as := [.int ((XT.ushr v10 (5 : Int32)) &&& (7 : Int32))]) (r := []) rfl rfl rfl rfl rfl ⟨by decide, (by first | decide | exact Nat.le_of_ble_eq_true rfl), (by first | decide | exact Nat.le_of_ble_eq_true rfl), rfl⟩ (cal_I (calI.mono h47 fun v52 s51 h53 => ?_))
                    refine wpl_sl (n := 8) (pc' := 482) (ls' := [some (.ref 0), none, some (.int x2), some (.ref 1), some (.long x4), none, some (.long x6), none, some (.int (x8 ||| ((1 : Int32) <<< (((XT.ushr v10 (5 : Int32)) &&& (7 : Int32)) &&& 31)))), some (.int x9), some (.int v10), some (.int v14), some (.int (v10 &&& (7 : Int32))), some (.int (((XT.ushr v10 (3 : Int32)) &&& (3 : Int32)) % x2)), some (.int ((XT.ushr v10 (5 : Int32)) &&& (7 : Int32))), some (.int ((XT.ushr v10 (8 : Int32)) &&& (3 : Int32))), some (.int ((XT.ushr v10 (10 : Int32)) &&& (7 : Int32))), some (.int ((v14 &&& (15 : Int32)) ||| ((v14 >>> ((4 : Int32) &&& 31)) <<< ((16 : Int32) &&& 31)))), none, none]) (st' := []) rfl ?_
                    exact wpl_lle (ls := [some (.ref 0), none, some (.int x2), some (.ref 1), some (.long x4), none, some (.long x6), none, some (.int (x8 ||| ((1 : Int32) <<< (((XT.ushr v10 (5 : Int32)) &&& (7 : Int32)) &&& 31)))), some (.int x9), none, none, none, none, none, none, none, none, none, none]) ⟨rfl, rfl, rfl, rfl, rfl, rfl, rfl, trivial⟩ h53
                · have h44 := h38.2 hc42
                  refine wpl_sl (n := 1) (pc' := 465) (ls' := [some (.ref 0), none, some (.int x2), some (.ref 1), some (.long x4), none, some (.long x6), none, some (.int x8), some (.int x9), some (.int v10), some (.int v14), some (.int (v10 &&& (7 : Int32))), some (.int (((XT.ushr v10 (3 : Int32)) &&& (3 : Int32)) % x2)), some (.int ((XT.ushr v10 (5 : Int32)) &&& (7 : Int32))), some (.int ((XT.ushr v10 (8 : Int32)) &&& (3 : Int32))), some (.int ((XT.ushr v10 (10 : Int32)) &&& (7 : Int32))), some (.int ((v14 &&& (15 : Int32)) ||| ((v14 >>> ((4 : Int32) &&& 31)) <<< ((16 : Int32) &&& 31)))), none, none]) (st' := [.ref 1]) rfl ?_
                  refine wpl_v1 (m' := 11) (me' := cm11) (as := []) (r := []) rfl rfl rfl rfl rfl ⟨by decide, (by first | decide | exact Nat.le_of_ble_eq_true rfl), (by first | decide | exact Nat.le_of_ble_eq_true rfl), rfl⟩ (cal_V (calV.mono h44 fun s54 h56 => ?_))
                  refine wpl_sl (n := 3) (pc' := 474) (ls' := [some (.ref 0), none, some (.int x2), some (.ref 1), some (.long x4), none, some (.long x6), none, some (.int (255 : Int32)), some (.int x9), some (.int v10), some (.int v14), some (.int (v10 &&& (7 : Int32))), some (.int (((XT.ushr v10 (3 : Int32)) &&& (3 : Int32)) % x2)), some (.int ((XT.ushr v10 (5 : Int32)) &&& (7 : Int32))), some (.int ((XT.ushr v10 (8 : Int32)) &&& (3 : Int32))), some (.int ((XT.ushr v10 (10 : Int32)) &&& (7 : Int32))), some (.int ((v14 &&& (15 : Int32)) ||| ((v14 >>> ((4 : Int32) &&& 31)) <<< ((16 : Int32) &&& 31)))), none, none]) (st' := [.ref 1]) rfl ?_
                  refine wpl_v1 (m' := 13) (me' := cm13) (as := []) (r := []) rfl rfl rfl rfl rfl ⟨by decide, (by first | decide | exact Nat.le_of_ble_eq_true rfl), (by first | decide | exact Nat.le_of_ble_eq_true rfl), rfl⟩ (cal_I (calI.mono h56 fun v58 s57 h59 => ?_))
                  refine wpl_if (a := 482) (b := 480) rfl (by decide) rfl rfl (wpl_br (p := v58 = (0 : Int32)) ⟨fun hc60 => ?_, fun hc60 => ?_⟩)
                  · have h61 := h59.1 hc60
                    exact wpl_lle (ls := [some (.ref 0), none, some (.int x2), some (.ref 1), some (.long x4), none, some (.long x6), none, some (.int (255 : Int32)), some (.int x9), none, none, none, none, none, none, none, none, none, none]) ⟨rfl, rfl, rfl, rfl, rfl, rfl, rfl, trivial⟩ h61
                  · have h62 := h59.2 hc60
                    refine wpl_sl (n := 1) (pc' := 481) (ls' := [some (.ref 0), none, some (.int x2), some (.ref 1), some (.long x4), none, some (.long x6), none, some (.int (255 : Int32)), some (.int x9), some (.int v10), some (.int v14), some (.int (v10 &&& (7 : Int32))), some (.int (((XT.ushr v10 (3 : Int32)) &&& (3 : Int32)) % x2)), some (.int ((XT.ushr v10 (5 : Int32)) &&& (7 : Int32))), some (.int ((XT.ushr v10 (8 : Int32)) &&& (3 : Int32))), some (.int ((XT.ushr v10 (10 : Int32)) &&& (7 : Int32))), some (.int ((v14 &&& (15 : Int32)) ||| ((v14 >>> ((4 : Int32) &&& 31)) <<< ((16 : Int32) &&& 31)))), none, none]) (st' := [.int (0 : Int32)]) rfl ?_
                    exact wpl_ret rfl rfl rfl ⟨(0 : Int32), rfl, h62⟩
  · have h8 := h.2 hc6
    refine wpl_sl (n := 1) (pc' := 554) (ls' := [some (.ref 0), none, some (.int x2), some (.ref 1), some (.long x4), none, some (.long x6), none, some (.int x8), some (.int x9), none, none, none, none, none, none, none, none, none, none]) (st' := [.int (1 : Int32)]) rfl ?_
    exact wpl_ret rfl rfl rfl ⟨(1 : Int32), rfl, h8⟩
theorem l0_138 (N : Nat) (sg : Nat → Int32) (x2 : Int32) (x4 : Int64) (x6 : Int64) (x8 : Int32) (x9 : Int32) (x13 : Int32) (x14 : Int32) (x15 : Int32)  (Q : Int32 → Wd → Prop) (h : calI PP 5 16 [.ref 0, .int x13, .int x14, .int x15] s (fun v64 s63 => lalI PP QQ (some (N, sg)) 3 [.long x4, .long x6, .int x14, .int x15] (W1 s63) (fun v67 w66 => ∃ s69, w66 = W1 s69 ∧ (((v64 = v67) → wplI PP QQ (some (N, sg)) 0 lm0 482 [some (.ref 0), none, some (.int x2), some (.ref 1), some (.long x4), none, some (.long x6), none, some (.int x8), some (.int x9), none, none, none, none, none, none, none, none, none, none] [] (W1 s69) Q) ∧ (¬ (v64 = v67) → Q (0 : Int32) (W1 s69)))))) : wplI PP QQ (some (N, sg)) 0 lm0 138 [some (.ref 0), none, some (.int x2), some (.ref 1), some (.long x4), none, some (.long x6), none, some (.int x8), some (.int x9), none, none, none, some (.int x13), some (.int x14), some (.int x15), none, none, none, none] [] (W1 s) Q := by
  refine wpl_sl (n := 4) (pc' := 145) (ls' := [some (.ref 0), none, some (.int x2), some (.ref 1), some (.long x4), none, some (.long x6), none, some (.int x8), some (.int x9), none, none, none, some (.int x13), some (.int x14), some (.int x15), none, none, none, none]) (st' := [.int x15, .int x14, .int x13, .ref 1]) rfl ?_
  refine wpl_v1 (m' := 5) (me' := cm5) (as := [.int x13, .int x14, .int x15]) (r := []) rfl rfl rfl rfl rfl ⟨by decide, (by first | decide | exact Nat.le_of_ble_eq_true rfl), (by first | decide | exact Nat.le_of_ble_eq_true rfl), rfl⟩ (cal_I (calI.mono h fun v64 s63 h65 => ?_))
  refine wpl_sl (n := 4) (pc' := 156) (ls' := [some (.ref 0), none, some (.int x2), some (.ref 1), some (.long x4), none, some (.long x6), none, some (.int x8), some (.int x9), none, none, none, some (.int x13), some (.int x14), some (.int x15), none, none, none, none]) (st' := [.int x15, .int x14, .long x6, .long x4, .int v64]) rfl ?_
  refine wpl_stat (m' := 3) (me' := lm3) (as := [.long x4, .long x6, .int x14, .int x15]) (r := [.int v64]) rfl rfl rfl rfl rfl ⟨(by first | decide | exact Nat.le_of_ble_eq_true rfl), (by first | decide | exact Nat.le_of_ble_eq_true rfl), (by first | decide | exact Nat.le_of_ble_eq_true rfl), (by first | decide | exact Nat.le_of_ble_eq_true rfl), rfl⟩ (lal_I (lalI.mono h65 fun v67 w66 hh => ?_))
  obtain ⟨s69, rfl, h68⟩ := hh
  refine wpl_icmp (a := 482) (b := 162) rfl (by decide) rfl rfl (wpl_br (p := v64 = v67) ⟨fun hc70 => ?_, fun hc70 => ?_⟩)
  · have h71 := h68.1 hc70
    exact wpl_lle (ls := [some (.ref 0), none, some (.int x2), some (.ref 1), some (.long x4), none, some (.long x6), none, some (.int x8), some (.int x9), none, none, none, none, none, none, none, none, none, none]) ⟨rfl, rfl, rfl, rfl, rfl, rfl, rfl, trivial⟩ h71
  · have h72 := h68.2 hc70
    refine wpl_sl (n := 1) (pc' := 163) (ls' := [some (.ref 0), none, some (.int x2), some (.ref 1), some (.long x4), none, some (.long x6), none, some (.int x8), some (.int x9), none, none, none, some (.int x13), some (.int x14), some (.int x15), none, none, none, none]) (st' := [.int (0 : Int32)]) rfl ?_
    exact wpl_ret rfl rfl rfl ⟨(0 : Int32), rfl, h72⟩
theorem l0_176 (N : Nat) (sg : Nat → Int32) (x2 : Int32) (x4 : Int64) (x6 : Int64) (x8 : Int32) (x9 : Int32) (x13 : Int32) (x14 : Int32) (x15 : Int32) (x17 : Int32)  (Q : Int32 → Wd → Prop) (h : calI PP 6 16 [.ref 0, .int x13, .int x14, .int x15, .int x17] s (fun v74 s73 => ((x14 < (4 : Int32)) → lalL PP QQ (some (N, sg)) 4 [.long x4, .int x14, .int x15, .int x17] (W1 s73) (fun v80 w79 => ∃ s82, w79 = W1 s82 ∧ (wplI PP QQ (some (N, sg)) 0 lm0 224 [some (.ref 0), none, some (.int x2), some (.ref 1), some (.long v80), none, some (.long x6), none, some (.int x8), some (.int x9), none, none, none, none, some (.int x14), none, none, none, none, none] [] (W1 s82) Q))) ∧ (¬ (x14 < (4 : Int32)) → lalL PP QQ (some (N, sg)) 4 [.long x6, .int x14, .int x15, .int x17] (W1 s73) (fun v84 w83 => ∃ s86, w83 = W1 s86 ∧ (wplI PP QQ (some (N, sg)) 0 lm0 224 [some (.ref 0), none, some (.int x2), some (.ref 1), some (.long x4), none, some (.long v84), none, some (.int x8), some (.int x9), none, none, none, none, some (.int x14), none, none, none, none, none] [] (W1 s86) Q))))) : wplI PP QQ (some (N, sg)) 0 lm0 176 [some (.ref 0), none, some (.int x2), some (.ref 1), some (.long x4), none, some (.long x6), none, some (.int x8), some (.int x9), none, none, none, some (.int x13), some (.int x14), some (.int x15), none, some (.int x17), none, none] [] (W1 s) Q := by
  refine wpl_sl (n := 5) (pc' := 185) (ls' := [some (.ref 0), none, some (.int x2), some (.ref 1), some (.long x4), none, some (.long x6), none, some (.int x8), some (.int x9), none, none, none, some (.int x13), some (.int x14), some (.int x15), none, some (.int x17), none, none]) (st' := [.int x17, .int x15, .int x14, .int x13, .ref 1]) rfl ?_
  refine wpl_v1 (m' := 6) (me' := cm6) (as := [.int x13, .int x14, .int x15, .int x17]) (r := []) rfl rfl rfl rfl rfl ⟨by decide, (by first | decide | exact Nat.le_of_ble_eq_true rfl), (by first | decide | exact Nat.le_of_ble_eq_true rfl), rfl⟩ (cal_I (calI.mono h fun v74 s73 h75 => ?_))
  refine wpl_sl (n := 3) (pc' := 192) (ls' := [some (.ref 0), none, some (.int x2), some (.ref 1), some (.long x4), none, some (.long x6), none, some (.int x8), some (.int x9), none, none, none, some (.int x13), some (.int x14), some (.int x15), none, some (.int x17), none, none]) (st' := [.int (4 : Int32), .int x14]) rfl ?_
  refine wpl_icmp (a := 211) (b := 195) rfl (by decide) rfl rfl (wpl_br (p := x14 < (4 : Int32)) ⟨fun hc76 => ?_, fun hc76 => ?_⟩)
  · have h77 := h75.1 hc76
    refine wpl_sl (n := 4) (pc' := 203) (ls' := [some (.ref 0), none, some (.int x2), some (.ref 1), some (.long x4), none, some (.long x6), none, some (.int x8), some (.int x9), none, none, none, some (.int x13), some (.int x14), some (.int x15), none, some (.int x17), none, none]) (st' := [.int x17, .int x15, .int x14, .long x4]) rfl ?_
    refine wpl_stat (m' := 4) (me' := lm4) (as := [.long x4, .int x14, .int x15, .int x17]) (r := []) rfl rfl rfl rfl rfl ⟨(by first | decide | exact Nat.le_of_ble_eq_true rfl), (by first | decide | exact Nat.le_of_ble_eq_true rfl), (by first | decide | exact Nat.le_of_ble_eq_true rfl), (by first | decide | exact Nat.le_of_ble_eq_true rfl), rfl⟩ (lal_L (lalL.mono h77 fun v80 w79 hh => ?_))
    obtain ⟨s82, rfl, h81⟩ := hh
    refine wpl_sl (n := 2) (pc' := 224) (ls' := [some (.ref 0), none, some (.int x2), some (.ref 1), some (.long v80), none, some (.long x6), none, some (.int x8), some (.int x9), none, none, none, some (.int x13), some (.int x14), some (.int x15), none, some (.int x17), none, none]) (st' := []) rfl ?_
    exact wpl_lle (ls := [some (.ref 0), none, some (.int x2), some (.ref 1), some (.long v80), none, some (.long x6), none, some (.int x8), some (.int x9), none, none, none, none, some (.int x14), none, none, none, none, none]) ⟨rfl, rfl, rfl, rfl, rfl, rfl, rfl, rfl, trivial⟩ h81
  · have h78 := h75.2 hc76
    refine wpl_sl (n := 4) (pc' := 219) (ls' := [some (.ref 0), none, some (.int x2), some (.ref 1), some (.long x4), none, some (.long x6), none, some (.int x8), some (.int x9), none, none, none, some (.int x13), some (.int x14), some (.int x15), none, some (.int x17), none, none]) (st' := [.int x17, .int x15, .int x14, .long x6]) rfl ?_
    refine wpl_stat (m' := 4) (me' := lm4) (as := [.long x6, .int x14, .int x15, .int x17]) (r := []) rfl rfl rfl rfl rfl ⟨(by first | decide | exact Nat.le_of_ble_eq_true rfl), (by first | decide | exact Nat.le_of_ble_eq_true rfl), (by first | decide | exact Nat.le_of_ble_eq_true rfl), (by first | decide | exact Nat.le_of_ble_eq_true rfl), rfl⟩ (lal_L (lalL.mono h78 fun v84 w83 hh => ?_))
    obtain ⟨s86, rfl, h85⟩ := hh
    refine wpl_sl (n := 1) (pc' := 224) (ls' := [some (.ref 0), none, some (.int x2), some (.ref 1), some (.long x4), none, some (.long v84), none, some (.int x8), some (.int x9), none, none, none, some (.int x13), some (.int x14), some (.int x15), none, some (.int x17), none, none]) (st' := []) rfl ?_
    exact wpl_lle (ls := [some (.ref 0), none, some (.int x2), some (.ref 1), some (.long x4), none, some (.long v84), none, some (.int x8), some (.int x9), none, none, none, none, some (.int x14), none, none, none, none, none]) ⟨rfl, rfl, rfl, rfl, rfl, rfl, rfl, rfl, trivial⟩ h85
theorem l0_258 (N : Nat) (sg : Nat → Int32) (x2 : Int32) (x4 : Int64) (x6 : Int64) (x8 : Int32) (x9 : Int32) (x14 : Int32) (x17 : Int32) (x18 : Int32)  (Q : Int32 → Wd → Prop) (h : ((x18 < (4 : Int32)) → ((x14 < (4 : Int32)) → lalL PP QQ (some (N, sg)) 4 [.long x4, .int x14, .int x18, .int x17] (W1 s) (fun v94 w93 => ∃ s96, w93 = W1 s96 ∧ (wplI PP QQ (some (N, sg)) 0 lm0 299 [some (.ref 0), none, some (.int x2), some (.ref 1), some (.long v94), none, some (.long x6), none, some (.int x8), some (.int x9), none, none, none, none, some (.int x14), none, none, some (.int x17), some (.int x18), none] [] (W1 s96) Q))) ∧ (¬ (x14 < (4 : Int32)) → lalL PP QQ (some (N, sg)) 4 [.long x6, .int x14, .int x18, .int x17] (W1 s) (fun v98 w97 => ∃ s100, w97 = W1 s100 ∧ (wplI PP QQ (some (N, sg)) 0 lm0 299 [some (.ref 0), none, some (.int x2), some (.ref 1), some (.long x4), none, some (.long v98), none, some (.int x8), some (.int x9), none, none, none, none, some (.int x14), none, none, some (.int x17), some (.int x18), none] [] (W1 s100) Q)))) ∧ (¬ (x18 < (4 : Int32)) → wplI PP QQ (some (N, sg)) 0 lm0 482 [some (.ref 0), none, some (.int x2), some (.ref 1), some (.long x4), none, some (.long x6), none, some (.int (x8 &&& (((1 : Int32) <<< (x14 &&& 31)) ^^^ (-1 : Int32)))), some (.int x9), none, none, none, none, none, none, none, none, none, none] [] (W1 s) Q)) : wplI PP QQ (some (N, sg)) 0 lm0 258 [some (.ref 0), none, some (.int x2), some (.ref 1), some (.long x4), none, some (.long x6), none, some (.int x8), some (.int x9), none, none, none, none, some (.int x14), none, none, some (.int x17), some (.int x18), none] [] (W1 s) Q := by
  refine wpl_sl (n := 2) (pc' := 261) (ls' := [some (.ref 0), none, some (.int x2), some (.ref 1), some (.long x4), none, some (.long x6), none, some (.int x8), some (.int x9), none, none, none, none, some (.int x14), none, none, some (.int x17), some (.int x18), none]) (st' := [.int (4 : Int32), .int x18]) rfl ?_
  refine wpl_icmp (a := 305) (b := 264) rfl (by decide) rfl rfl (wpl_br (p := x18 < (4 : Int32)) ⟨fun hc87 => ?_, fun hc87 => ?_⟩)
  · have h88 := h.1 hc87
    refine wpl_sl (n := 2) (pc' := 267) (ls' := [some (.ref 0), none, some (.int x2), some (.ref 1), some (.long x4), none, some (.long x6), none, some (.int x8), some (.int x9), none, none, none, none, some (.int x14), none, none, some (.int x17), some (.int x18), none]) (st' := [.int (4 : Int32), .int x14]) rfl ?_
    refine wpl_icmp (a := 286) (b := 270) rfl (by decide) rfl rfl (wpl_br (p := x14 < (4 : Int32)) ⟨fun hc90 => ?_, fun hc90 => ?_⟩)
    · have h91 := h88.1 hc90
      refine wpl_sl (n := 4) (pc' := 278) (ls' := [some (.ref 0), none, some (.int x2), some (.ref 1), some (.long x4), none, some (.long x6), none, some (.int x8), some (.int x9), none, none, none, none, some (.int x14), none, none, some (.int x17), some (.int x18), none]) (st' := [.int x17, .int x18, .int x14, .long x4]) rfl ?_
      refine wpl_stat (m' := 4) (me' := lm4) (as := [.long x4, .int x14, .int x18, .int x17]) (r := []) rfl rfl rfl rfl rfl ⟨(by first | decide | exact Nat.le_of_ble_eq_true rfl), (by first | decide | exact Nat.le_of_ble_eq_true rfl), (by first | decide | exact Nat.le_of_ble_eq_true rfl), (by first | decide | exact Nat.le_of_ble_eq_true rfl), rfl⟩ (lal_L (lalL.mono h91 fun v94 w93 hh => ?_))
      obtain ⟨s96, rfl, h95⟩ := hh
      refine wpl_sl (n := 2) (pc' := 299) (ls' := [some (.ref 0), none, some (.int x2), some (.ref 1), some (.long v94), none, some (.long x6), none, some (.int x8), some (.int x9), none, none, none, none, some (.int x14), none, none, some (.int x17), some (.int x18), none]) (st' := []) rfl ?_
      exact h95
    · have h92 := h88.2 hc90
      refine wpl_sl (n := 4) (pc' := 294) (ls' := [some (.ref 0), none, some (.int x2), some (.ref 1), some (.long x4), none, some (.long x6), none, some (.int x8), some (.int x9), none, none, none, none, some (.int x14), none, none, some (.int x17), some (.int x18), none]) (st' := [.int x17, .int x18, .int x14, .long x6]) rfl ?_
      refine wpl_stat (m' := 4) (me' := lm4) (as := [.long x6, .int x14, .int x18, .int x17]) (r := []) rfl rfl rfl rfl rfl ⟨(by first | decide | exact Nat.le_of_ble_eq_true rfl), (by first | decide | exact Nat.le_of_ble_eq_true rfl), (by first | decide | exact Nat.le_of_ble_eq_true rfl), (by first | decide | exact Nat.le_of_ble_eq_true rfl), rfl⟩ (lal_L (lalL.mono h92 fun v98 w97 hh => ?_))
      obtain ⟨s100, rfl, h99⟩ := hh
      refine wpl_sl (n := 1) (pc' := 299) (ls' := [some (.ref 0), none, some (.int x2), some (.ref 1), some (.long x4), none, some (.long v98), none, some (.int x8), some (.int x9), none, none, none, none, some (.int x14), none, none, some (.int x17), some (.int x18), none]) (st' := []) rfl ?_
      exact h99
  · have h89 := h.2 hc87
    refine wpl_sl (n := 5) (pc' := 312) (ls' := [some (.ref 0), none, some (.int x2), some (.ref 1), some (.long x4), none, some (.long x6), none, some (.int x8), some (.int x9), none, none, none, none, some (.int x14), none, none, some (.int x17), some (.int x18), none]) (st' := [.int (-1 : Int32), .int ((1 : Int32) <<< (x14 &&& 31)), .int x8]) rfl ?_
    refine wpl_sl (n := 4) (pc' := 482) (ls' := [some (.ref 0), none, some (.int x2), some (.ref 1), some (.long x4), none, some (.long x6), none, some (.int (x8 &&& (((1 : Int32) <<< (x14 &&& 31)) ^^^ (-1 : Int32)))), some (.int x9), none, none, none, none, some (.int x14), none, none, some (.int x17), some (.int x18), none]) (st' := []) rfl ?_
    exact wpl_lle (ls := [some (.ref 0), none, some (.int x2), some (.ref 1), some (.long x4), none, some (.long x6), none, some (.int (x8 &&& (((1 : Int32) <<< (x14 &&& 31)) ^^^ (-1 : Int32)))), some (.int x9), none, none, none, none, none, none, none, none, none, none]) ⟨rfl, rfl, rfl, rfl, rfl, rfl, rfl, trivial⟩ h89
theorem l0_339 (N : Nat) (sg : Nat → Int32) (x2 : Int32) (x4 : Int64) (x6 : Int64) (x8 : Int32) (x9 : Int32) (x14 : Int32) (x16 : Int32) (x18 : Int32)  (Q : Int32 → Wd → Prop) (h : ((x18 < (4 : Int32)) → lalI PP QQ (some (N, sg)) 3 [.long x4, .long x6, .int x14, .int x18] (W1 s) (fun v105 w104 => ∃ s107, w104 = W1 s107 ∧ (((x16 < (4 : Int32)) → lalL PP QQ (some (N, sg)) 4 [.long x4, .int x16, .int x18, .int v105] (W1 s107) (fun v112 w111 => ∃ s114, w111 = W1 s114 ∧ (wplI PP QQ (some (N, sg)) 0 lm0 393 [some (.ref 0), none, some (.int x2), some (.ref 1), some (.long v112), none, some (.long x6), none, some (.int x8), some (.int x9), none, none, none, none, some (.int x14), none, some (.int x16), none, some (.int x18), none] [] (W1 s114) Q))) ∧ (¬ (x16 < (4 : Int32)) → lalL PP QQ (some (N, sg)) 4 [.long x6, .int x16, .int x18, .int v105] (W1 s107) (fun v116 w115 => ∃ s118, w115 = W1 s118 ∧ (wplI PP QQ (some (N, sg)) 0 lm0 393 [some (.ref 0), none, some (.int x2), some (.ref 1), some (.long x4), none, some (.long v116), none, some (.int x8), some (.int x9), none, none, none, none, some (.int x14), none, some (.int x16), none, some (.int x18), none] [] (W1 s118) Q)))))) ∧ (¬ (x18 < (4 : Int32)) → wplI PP QQ (some (N, sg)) 0 lm0 482 [some (.ref 0), none, some (.int x2), some (.ref 1), some (.long x4), none, some (.long x6), none, some (.int (x8 &&& (((1 : Int32) <<< (x16 &&& 31)) ^^^ (-1 : Int32)))), some (.int x9), none, none, none, none, none, none, none, none, none, none] [] (W1 s) Q)) : wplI PP QQ (some (N, sg)) 0 lm0 339 [some (.ref 0), none, some (.int x2), some (.ref 1), some (.long x4), none, some (.long x6), none, some (.int x8), some (.int x9), none, none, none, none, some (.int x14), none, some (.int x16), none, some (.int x18), none] [] (W1 s) Q := by
  refine wpl_sl (n := 2) (pc' := 342) (ls' := [some (.ref 0), none, some (.int x2), some (.ref 1), some (.long x4), none, some (.long x6), none, some (.int x8), some (.int x9), none, none, none, none, some (.int x14), none, some (.int x16), none, some (.int x18), none]) (st' := [.int (4 : Int32), .int x18]) rfl ?_
  refine wpl_icmp (a := 399) (b := 345) rfl (by decide) rfl rfl (wpl_br (p := x18 < (4 : Int32)) ⟨fun hc101 => ?_, fun hc101 => ?_⟩)
  · have h102 := h.1 hc101
    refine wpl_sl (n := 4) (pc' := 353) (ls' := [some (.ref 0), none, some (.int x2), some (.ref 1), some (.long x4), none, some (.long x6), none, some (.int x8), some (.int x9), none, none, none, none, some (.int x14), none, some (.int x16), none, some (.int x18), none]) (st' := [.int x18, .int x14, .long x6, .long x4]) rfl ?_
    refine wpl_stat (m' := 3) (me' := lm3) (as := [.long x4, .long x6, .int x14, .int x18]) (r := []) rfl rfl rfl rfl rfl ⟨(by first | decide | exact Nat.le_of_ble_eq_true rfl), (by first | decide | exact Nat.le_of_ble_eq_true rfl), (by first | decide | exact Nat.le_of_ble_eq_true rfl), (by first | decide | exact Nat.le_of_ble_eq_true rfl), rfl⟩ (lal_I (lalI.mono h102 fun v105 w104 hh => ?_))
    obtain ⟨s107, rfl, h106⟩ := hh
    refine wpl_sl (n := 3) (pc' := 361) (ls' := [some (.ref 0), none, some (.int x2), some (.ref 1), some (.long x4), none, some (.long x6), none, some (.int x8), some (.int x9), none, none, none, none, some (.int x14), none, some (.int x16), none, some (.int x18), some (.int v105)]) (st' := [.int (4 : Int32), .int x16]) rfl ?_
    refine wpl_icmp (a := 380) (b := 364) rfl (by decide) rfl rfl (wpl_br (p := x16 < (4 : Int32)) ⟨fun hc108 => ?_, fun hc108 => ?_⟩)
    · have h109 := h106.1 hc108
      refine wpl_sl (n := 4) (pc' := 372) (ls' := [some (.ref 0), none, some (.int x2), some (.ref 1), some (.long x4), none, some (.long x6), none, some (.int x8), some (.int x9), none, none, none, none, some (.int x14), none, some (.int x16), none, some (.int x18), some (.int v105)]) (st' := [.int v105, .int x18, .int x16, .long x4]) rfl ?_
      refine wpl_stat (m' := 4) (me' := lm4) (as := [.long x4, .int x16, .int x18, .int v105]) (r := []) rfl rfl rfl rfl rfl ⟨(by first | decide | exact Nat.le_of_ble_eq_true rfl), (by first | decide | exact Nat.le_of_ble_eq_true rfl), (by first | decide | exact Nat.le_of_ble_eq_true rfl), (by first | decide | exact Nat.le_of_ble_eq_true rfl), rfl⟩ (lal_L (lalL.mono h109 fun v112 w111 hh => ?_))
      obtain ⟨s114, rfl, h113⟩ := hh
      refine wpl_sl (n := 2) (pc' := 393) (ls' := [some (.ref 0), none, some (.int x2), some (.ref 1), some (.long v112), none, some (.long x6), none, some (.int x8), some (.int x9), none, none, none, none, some (.int x14), none, some (.int x16), none, some (.int x18), some (.int v105)]) (st' := []) rfl ?_
      exact wpl_lle (ls := [some (.ref 0), none, some (.int x2), some (.ref 1), some (.long v112), none, some (.long x6), none, some (.int x8), some (.int x9), none, none, none, none, some (.int x14), none, some (.int x16), none, some (.int x18), none]) ⟨rfl, rfl, rfl, rfl, rfl, rfl, rfl, rfl, rfl, rfl, trivial⟩ h113
    · have h110 := h106.2 hc108
      refine wpl_sl (n := 4) (pc' := 388) (ls' := [some (.ref 0), none, some (.int x2), some (.ref 1), some (.long x4), none, some (.long x6), none, some (.int x8), some (.int x9), none, none, none, none, some (.int x14), none, some (.int x16), none, some (.int x18), some (.int v105)]) (st' := [.int v105, .int x18, .int x16, .long x6]) rfl ?_
      refine wpl_stat (m' := 4) (me' := lm4) (as := [.long x6, .int x16, .int x18, .int v105]) (r := []) rfl rfl rfl rfl rfl ⟨(by first | decide | exact Nat.le_of_ble_eq_true rfl), (by first | decide | exact Nat.le_of_ble_eq_true rfl), (by first | decide | exact Nat.le_of_ble_eq_true rfl), (by first | decide | exact Nat.le_of_ble_eq_true rfl), rfl⟩ (lal_L (lalL.mono h110 fun v116 w115 hh => ?_))
      obtain ⟨s118, rfl, h117⟩ := hh
      refine wpl_sl (n := 1) (pc' := 393) (ls' := [some (.ref 0), none, some (.int x2), some (.ref 1), some (.long x4), none, some (.long v116), none, some (.int x8), some (.int x9), none, none, none, none, some (.int x14), none, some (.int x16), none, some (.int x18), some (.int v105)]) (st' := []) rfl ?_
      exact wpl_lle (ls := [some (.ref 0), none, some (.int x2), some (.ref 1), some (.long x4), none, some (.long v116), none, some (.int x8), some (.int x9), none, none, none, none, some (.int x14), none, some (.int x16), none, some (.int x18), none]) ⟨rfl, rfl, rfl, rfl, rfl, rfl, rfl, rfl, rfl, rfl, trivial⟩ h117
  · have h103 := h.2 hc101
    refine wpl_sl (n := 5) (pc' := 406) (ls' := [some (.ref 0), none, some (.int x2), some (.ref 1), some (.long x4), none, some (.long x6), none, some (.int x8), some (.int x9), none, none, none, none, some (.int x14), none, some (.int x16), none, some (.int x18), none]) (st' := [.int (-1 : Int32), .int ((1 : Int32) <<< (x16 &&& 31)), .int x8]) rfl ?_
    refine wpl_sl (n := 4) (pc' := 482) (ls' := [some (.ref 0), none, some (.int x2), some (.ref 1), some (.long x4), none, some (.long x6), none, some (.int (x8 &&& (((1 : Int32) <<< (x16 &&& 31)) ^^^ (-1 : Int32)))), some (.int x9), none, none, none, none, some (.int x14), none, some (.int x16), none, some (.int x18), none]) (st' := []) rfl ?_
    exact wpl_lle (ls := [some (.ref 0), none, some (.int x2), some (.ref 1), some (.long x4), none, some (.long x6), none, some (.int (x8 &&& (((1 : Int32) <<< (x16 &&& 31)) ^^^ (-1 : Int32)))), some (.int x9), none, none, none, none, none, none, none, none, none, none]) ⟨rfl, rfl, rfl, rfl, rfl, rfl, rfl, trivial⟩ h103
theorem l0_482 (N : Nat) (sg : Nat → Int32) (x2 : Int32) (x4 : Int64) (x6 : Int64) (x8 : Int32) (x9 : Int32)  (Q : Int32 → Wd → Prop) (h : wplI PP QQ (some (N, sg)) 0 lm0 485 [some (.ref 0), none, some (.int x2), some (.ref 1), some (.long x4), none, some (.long x6), none, some (.int x8), some (.int x9), none, none, none, none, none, none, none, none, some (.int (0 : Int32)), none] [] (W1 s) Q) : wplI PP QQ (some (N, sg)) 0 lm0 482 [some (.ref 0), none, some (.int x2), some (.ref 1), some (.long x4), none, some (.long x6), none, some (.int x8), some (.int x9), none, none, none, none, none, none, none, none, none, none] [] (W1 s) Q := by
  refine wpl_sl (n := 2) (pc' := 485) (ls' := [some (.ref 0), none, some (.int x2), some (.ref 1), some (.long x4), none, some (.long x6), none, some (.int x8), some (.int x9), none, none, none, none, none, none, none, none, some (.int (0 : Int32)), none]) (st' := []) rfl ?_
  exact h
theorem l0_224 (N : Nat) (sg : Nat → Int32) (x2 : Int32) (x4 : Int64) (x6 : Int64) (x8 : Int32) (x9 : Int32) (x14 : Int32)  (Q : Int32 → Wd → Prop) (h : wplI PP QQ (some (N, sg)) 0 lm0 482 [some (.ref 0), none, some (.int x2), some (.ref 1), some (.long x4), none, some (.long x6), none, some (.int (x8 &&& (((1 : Int32) <<< (x14 &&& 31)) ^^^ (-1 : Int32)))), some (.int x9), none, none, none, none, none, none, none, none, none, none] [] (W1 s) Q) : wplI PP QQ (some (N, sg)) 0 lm0 224 [some (.ref 0), none, some (.int x2), some (.ref 1), some (.long x4), none, some (.long x6), none, some (.int x8), some (.int x9), none, none, none, none, some (.int x14), none, none, none, none, none] [] (W1 s) Q := by
  refine wpl_sl (n := 5) (pc' := 231) (ls' := [some (.ref 0), none, some (.int x2), some (.ref 1), some (.long x4), none, some (.long x6), none, some (.int x8), some (.int x9), none, none, none, none, some (.int x14), none, none, none, none, none]) (st' := [.int (-1 : Int32), .int ((1 : Int32) <<< (x14 &&& 31)), .int x8]) rfl ?_
  refine wpl_sl (n := 4) (pc' := 482) (ls' := [some (.ref 0), none, some (.int x2), some (.ref 1), some (.long x4), none, some (.long x6), none, some (.int (x8 &&& (((1 : Int32) <<< (x14 &&& 31)) ^^^ (-1 : Int32)))), some (.int x9), none, none, none, none, some (.int x14), none, none, none, none, none]) (st' := []) rfl ?_
  exact wpl_lle (ls := [some (.ref 0), none, some (.int x2), some (.ref 1), some (.long x4), none, some (.long x6), none, some (.int (x8 &&& (((1 : Int32) <<< (x14 &&& 31)) ^^^ (-1 : Int32)))), some (.int x9), none, none, none, none, none, none, none, none, none, none]) ⟨rfl, rfl, rfl, rfl, rfl, rfl, rfl, trivial⟩ h
theorem l0_299 (N : Nat) (sg : Nat → Int32) (x2 : Int32) (x4 : Int64) (x6 : Int64) (x8 : Int32) (x9 : Int32) (x14 : Int32) (x17 : Int32) (x18 : Int32)  (Q : Int32 → Wd → Prop) (h : wplI PP QQ (some (N, sg)) 0 lm0 258 [some (.ref 0), none, some (.int x2), some (.ref 1), some (.long x4), none, some (.long x6), none, some (.int x8), some (.int x9), none, none, none, none, some (.int x14), none, none, some (.int x17), some (.int (x18 + (1 : Int32))), none] [] (W1 s) Q) : wplI PP QQ (some (N, sg)) 0 lm0 299 [some (.ref 0), none, some (.int x2), some (.ref 1), some (.long x4), none, some (.long x6), none, some (.int x8), some (.int x9), none, none, none, none, some (.int x14), none, none, some (.int x17), some (.int x18), none] [] (W1 s) Q := by
  refine wpl_sl (n := 2) (pc' := 258) (ls' := [some (.ref 0), none, some (.int x2), some (.ref 1), some (.long x4), none, some (.long x6), none, some (.int x8), some (.int x9), none, none, none, none, some (.int x14), none, none, some (.int x17), some (.int (x18 + (1 : Int32))), none]) (st' := []) rfl ?_
  exact h
theorem l0_393 (N : Nat) (sg : Nat → Int32) (x2 : Int32) (x4 : Int64) (x6 : Int64) (x8 : Int32) (x9 : Int32) (x14 : Int32) (x16 : Int32) (x18 : Int32)  (Q : Int32 → Wd → Prop) (h : wplI PP QQ (some (N, sg)) 0 lm0 339 [some (.ref 0), none, some (.int x2), some (.ref 1), some (.long x4), none, some (.long x6), none, some (.int x8), some (.int x9), none, none, none, none, some (.int x14), none, some (.int x16), none, some (.int (x18 + (1 : Int32))), none] [] (W1 s) Q) : wplI PP QQ (some (N, sg)) 0 lm0 393 [some (.ref 0), none, some (.int x2), some (.ref 1), some (.long x4), none, some (.long x6), none, some (.int x8), some (.int x9), none, none, none, none, some (.int x14), none, some (.int x16), none, some (.int x18), none] [] (W1 s) Q := by
  refine wpl_sl (n := 2) (pc' := 339) (ls' := [some (.ref 0), none, some (.int x2), some (.ref 1), some (.long x4), none, some (.long x6), none, some (.int x8), some (.int x9), none, none, none, none, some (.int x14), none, some (.int x16), none, some (.int (x18 + (1 : Int32))), none]) (st' := []) rfl ?_
  exact h
theorem l0_485 (N : Nat) (sg : Nat → Int32) (x2 : Int32) (x4 : Int64) (x6 : Int64) (x8 : Int32) (x9 : Int32) (x18 : Int32)  (Q : Int32 → Wd → Prop) (h : ((x18 < (8 : Int32)) → (((x8 &&& ((1 : Int32) <<< (x18 &&& 31))) = (0 : Int32)) → wplI PP QQ (some (N, sg)) 0 lm0 541 [some (.ref 0), none, some (.int x2), some (.ref 1), some (.long x4), none, some (.long x6), none, some (.int x8), some (.int x9), none, none, none, none, none, none, none, none, some (.int x18), none] [] (W1 s) Q) ∧ (¬ ((x8 &&& ((1 : Int32) <<< (x18 &&& 31))) = (0 : Int32)) → wplI PP QQ (some (N, sg)) 0 lm0 505 [some (.ref 0), none, some (.int x2), some (.ref 1), some (.long x4), none, some (.long x6), none, some (.int x8), some (.int x9), none, none, none, none, none, none, none, none, some (.int x18), some (.int (0 : Int32))] [] (W1 s) Q)) ∧ (¬ (x18 < (8 : Int32)) → wplI PP QQ (some (N, sg)) 0 lm0 42 [some (.ref 0), none, some (.int x2), some (.ref 1), some (.long x4), none, some (.long x6), none, some (.int x8), some (.int (x9 + (2 : Int32))), none, none, none, none, none, none, none, none, none, none] [] (W1 s) Q)) : wplI PP QQ (some (N, sg)) 0 lm0 485 [some (.ref 0), none, some (.int x2), some (.ref 1), some (.long x4), none, some (.long x6), none, some (.int x8), some (.int x9), none, none, none, none, none, none, none, none, some (.int x18), none] [] (W1 s) Q := by
  refine wpl_sl (n := 2) (pc' := 489) (ls' := [some (.ref 0), none, some (.int x2), some (.ref 1), some (.long x4), none, some (.long x6), none, some (.int x8), some (.int x9), none, none, none, none, none, none, none, none, some (.int x18), none]) (st' := [.int (8 : Int32), .int x18]) rfl ?_
  refine wpl_icmp (a := 547) (b := 492) rfl (by decide) rfl rfl (wpl_br (p := x18 < (8 : Int32)) ⟨fun hc119 => ?_, fun hc119 => ?_⟩)
  · have h120 := h.1 hc119
    refine wpl_sl (n := 5) (pc' := 499) (ls' := [some (.ref 0), none, some (.int x2), some (.ref 1), some (.long x4), none, some (.long x6), none, some (.int x8), some (.int x9), none, none, none, none, none, none, none, none, some (.int x18), none]) (st' := [.int (x8 &&& ((1 : Int32) <<< (x18 &&& 31)))]) rfl ?_
    refine wpl_if (a := 541) (b := 502) rfl (by decide) rfl rfl (wpl_br (p := (x8 &&& ((1 : Int32) <<< (x18 &&& 31))) = (0 : Int32)) ⟨fun hc122 => ?_, fun hc122 => ?_⟩)
    · have h123 := h120.1 hc122
      exact h123
    · have h124 := h120.2 hc122
      refine wpl_sl (n := 2) (pc' := 505) (ls' := [some (.ref 0), none, some (.int x2), some (.ref 1), some (.long x4), none, some (.long x6), none, some (.int x8), some (.int x9), none, none, none, none, none, none, none, none, some (.int x18), some (.int (0 : Int32))]) (st' := []) rfl ?_
      exact h124
  · have h121 := h.2 hc119
    refine wpl_sl (n := 2) (pc' := 42) (ls' := [some (.ref 0), none, some (.int x2), some (.ref 1), some (.long x4), none, some (.long x6), none, some (.int x8), some (.int (x9 + (2 : Int32))), none, none, none, none, none, none, none, none, some (.int x18), none]) (st' := []) rfl ?_
    exact wpl_lle (ls := [some (.ref 0), none, some (.int x2), some (.ref 1), some (.long x4), none, some (.long x6), none, some (.int x8), some (.int (x9 + (2 : Int32))), none, none, none, none, none, none, none, none, none, none]) ⟨rfl, rfl, rfl, rfl, rfl, rfl, rfl, trivial⟩ h121
theorem l0_541 (N : Nat) (sg : Nat → Int32) (x2 : Int32) (x4 : Int64) (x6 : Int64) (x8 : Int32) (x9 : Int32) (x18 : Int32)  (Q : Int32 → Wd → Prop) (h : wplI PP QQ (some (N, sg)) 0 lm0 485 [some (.ref 0), none, some (.int x2), some (.ref 1), some (.long x4), none, some (.long x6), none, some (.int x8), some (.int x9), none, none, none, none, none, none, none, none, some (.int (x18 + (1 : Int32))), none] [] (W1 s) Q) : wplI PP QQ (some (N, sg)) 0 lm0 541 [some (.ref 0), none, some (.int x2), some (.ref 1), some (.long x4), none, some (.long x6), none, some (.int x8), some (.int x9), none, none, none, none, none, none, none, none, some (.int x18), none] [] (W1 s) Q := by
  refine wpl_sl (n := 2) (pc' := 485) (ls' := [some (.ref 0), none, some (.int x2), some (.ref 1), some (.long x4), none, some (.long x6), none, some (.int x8), some (.int x9), none, none, none, none, none, none, none, none, some (.int (x18 + (1 : Int32))), none]) (st' := []) rfl ?_
  exact h
theorem l0_505 (N : Nat) (sg : Nat → Int32) (x2 : Int32) (x4 : Int64) (x6 : Int64) (x8 : Int32) (x9 : Int32) (x18 : Int32) (x19 : Int32)  (Q : Int32 → Wd → Prop) (h : ((x19 < (4 : Int32)) → calI PP 12 16 [.ref 0, .int x18, .int x19] s (fun v129 s128 => lalI PP QQ (some (N, sg)) 3 [.long x4, .long x6, .int x18, .int x19] (W1 s128) (fun v132 w131 => ∃ s134, w131 = W1 s134 ∧ (((v129 = v132) → wplI PP QQ (some (N, sg)) 0 lm0 505 [some (.ref 0), none, some (.int x2), some (.ref 1), some (.long x4), none, some (.long x6), none, some (.int x8), some (.int x9), none, none, none, none, none, none, none, none, some (.int x18), some (.int (x19 + (1 : Int32)))] [] (W1 s134) Q) ∧ (¬ (v129 = v132) → Q (0 : Int32) (W1 s134)))))) ∧ (¬ (x19 < (4 : Int32)) → wplI PP QQ (some (N, sg)) 0 lm0 541 [some (.ref 0), none, some (.int x2), some (.ref 1), some (.long x4), none, some (.long x6), none, some (.int x8), some (.int x9), none, none, none, none, none, none, none, none, some (.int x18), none] [] (W1 s) Q)) : wplI PP QQ (some (N, sg)) 0 lm0 505 [some (.ref 0), none, some (.int x2), some (.ref 1), some (.long x4), none, some (.long x6), none, some (.int x8), some (.int x9), none, none, none, none, none, none, none, none, some (.int x18), some (.int x19)] [] (W1 s) Q := by
  refine wpl_sl (n := 2) (pc' := 508) (ls' := [some (.ref 0), none, some (.int x2), some (.ref 1), some (.long x4), none, some (.long x6), none, some (.int x8), some (.int x9), none, none, none, none, none, none, none, none, some (.int x18), some (.int x19)]) (st' := [.int (4 : Int32), .int x19]) rfl ?_
  refine wpl_icmp (a := 541) (b := 511) rfl (by decide) rfl rfl (wpl_br (p := x19 < (4 : Int32)) ⟨fun hc125 => ?_, fun hc125 => ?_⟩)
  · have h126 := h.1 hc125
    refine wpl_sl (n := 3) (pc' := 516) (ls' := [some (.ref 0), none, some (.int x2), some (.ref 1), some (.long x4), none, some (.long x6), none, some (.int x8), some (.int x9), none, none, none, none, none, none, none, none, some (.int x18), some (.int x19)]) (st' := [.int x19, .int x18, .ref 1]) rfl ?_
    refine wpl_v1 (m' := 12) (me' := cm12) (as := [.int x18, .int x19]) (r := []) rfl rfl rfl rfl rfl ⟨by decide, (by first | decide | exact Nat.le_of_ble_eq_true rfl), (by first | decide | exact Nat.le_of_ble_eq_true rfl), rfl⟩ (cal_I (calI.mono h126 fun v129 s128 h130 => ?_))
    refine wpl_sl (n := 4) (pc' := 527) (ls' := [some (.ref 0), none, some (.int x2), some (.ref 1), some (.long x4), none, some (.long x6), none, some (.int x8), some (.int x9), none, none, none, none, none, none, none, none, some (.int x18), some (.int x19)]) (st' := [.int x19, .int x18, .long x6, .long x4, .int v129]) rfl ?_
    refine wpl_stat (m' := 3) (me' := lm3) (as := [.long x4, .long x6, .int x18, .int x19]) (r := [.int v129]) rfl rfl rfl rfl rfl ⟨(by first | decide | exact Nat.le_of_ble_eq_true rfl), (by first | decide | exact Nat.le_of_ble_eq_true rfl), (by first | decide | exact Nat.le_of_ble_eq_true rfl), (by first | decide | exact Nat.le_of_ble_eq_true rfl), rfl⟩ (lal_I (lalI.mono h130 fun v132 w131 hh => ?_))
    obtain ⟨s134, rfl, h133⟩ := hh
    refine wpl_icmp (a := 535) (b := 533) rfl (by decide) rfl rfl (wpl_br (p := v129 = v132) ⟨fun hc135 => ?_, fun hc135 => ?_⟩)
    · have h136 := h133.1 hc135
      refine wpl_sl (n := 2) (pc' := 505) (ls' := [some (.ref 0), none, some (.int x2), some (.ref 1), some (.long x4), none, some (.long x6), none, some (.int x8), some (.int x9), none, none, none, none, none, none, none, none, some (.int x18), some (.int (x19 + (1 : Int32)))]) (st' := []) rfl ?_
      exact h136
    · have h137 := h133.2 hc135
      refine wpl_sl (n := 1) (pc' := 534) (ls' := [some (.ref 0), none, some (.int x2), some (.ref 1), some (.long x4), none, some (.long x6), none, some (.int x8), some (.int x9), none, none, none, none, none, none, none, none, some (.int x18), some (.int x19)]) (st' := [.int (0 : Int32)]) rfl ?_
      exact wpl_ret rfl rfl rfl ⟨(0 : Int32), rfl, h137⟩
  · have h127 := h.2 hc125
    exact wpl_lle (ls := [some (.ref 0), none, some (.int x2), some (.ref 1), some (.long x4), none, some (.long x6), none, some (.int x8), some (.int x9), none, none, none, none, none, none, none, none, some (.int x18), none]) ⟨rfl, rfl, rfl, rfl, rfl, rfl, rfl, rfl, trivial⟩ h127
theorem own_clamp (x lo hi : Int32) (s : St) (Q : Int32 → St → Prop) (h : Q (if x < lo then lo else if hi < x then hi else x) s) : calI PP 18 16 [.ref 0, .int x, .int lo, .int hi] s Q := by
  apply c18_in
  refine ⟨fun a => ?_, fun a => ⟨fun b => ?_, fun b => ?_⟩⟩
  · rw [if_pos a] at h; exact h
  · rw [if_neg a, if_pos b] at h; exact h
  · rw [if_neg a, if_neg b] at h; exact h
theorem own_cl_rng {x lo hi m : Int32} (h : lo.toInt ≤ hi.toInt) (e : m = if x < lo then lo else if hi < x then hi else x) : lo.toInt ≤ m.toInt ∧ m.toInt ≤ hi.toInt := by
  subst e
  split
  · omega
  · split
    · omega
    · simp only [i32_lt] at *; omega
/-- four cells a row -/
theorem own_x4 {k w : Int32} {N : Nat} (hk : 0 ≤ k.toInt ∧ k.toInt < N) (hN : N ≤ 32) (hw : 0 ≤ w.toInt ∧ w.toInt < 4) : (k * 4 + w).toInt = k.toInt * 4 + w.toInt ∧ ix (k * 4 + w) = 4 * ix k + ix w := by
  have e1 : (k * 4).toInt = k.toInt * 4 := by rw [i32_mul] <;> simp <;> omega
  have e2 : (k * 4 + w).toInt = k.toInt * 4 + w.toInt := by rw [i32_add, e1] <;> rw [e1] <;> omega
  have a := ix_int hk.1
  have b := ix_int hw.1
  have c := ix_int (i := k * 4 + w) (by omega)
  exact ⟨e2, by omega⟩
/-- pickNext -/
theorem own_38 (s : St) (n : Nat) (hn : (gI s 0 30).toInt = n) (h16 : n ≤ 16) (Q : Int32 → St → Prop) (h0 : n = 0 → ∀ v, v < 0 → Q v s) (h1 : ∀ i : Int32, 0 ≤ i.toInt → i.toInt < n → Q i s) : calI PP 38 16 [.ref 0] s Q := by
  apply c38_in
  refine loop_up (F := fun i => ∀ x y : Int32, (x.toInt = -1 ∨ (0 ≤ x.toInt ∧ x.toInt < i.toInt)) → (i.toInt = 0 → y = -1) → (0 < i.toInt → 0 ≤ y.toInt ∧ y.toInt < i.toInt) → wpcI PP 38 cm38 16 6 [some (.ref 0), some (.int x), some (.int y), some (.int i), none] [] s Q) n (by omega) (fun i i0 i1 e ih x y hx hy hz => ?_) (fun i hi x y hx hy hz => ?_) 0 (by decide) (by simp) (-1) (-1) (Or.inl (by decide)) (fun _ => rfl) (fun q => absurd q (by decide))
  · have ib : inb 16 i := ⟨i0, by show _ < (16 : Int); omega⟩
    have go : ∀ x' v : Int32, (x'.toInt = -1 ∨ (0 ≤ x'.toInt ∧ x'.toInt < i.toInt + 1)) → wpcI PP 38 cm38 16 48 [some (.ref 0), some (.int x'), some (.int y), some (.int i), some (.int v)] [] s Q := by
      intro x' v hx'
      refine c38_48 _ _ _ _ _ _ ⟨fun q => ih x' i (hx'.imp id (fun q => by omega)) (fun q => by omega) (fun _ => by omega), fun q => ?_⟩
      have yp : 0 < i.toInt := by
        rcases Int.lt_or_eq_of_le i0 with a | a
        · exact a
        · rw [hy a.symm] at q; exact absurd (by decide) q
      have yb := hz yp
      refine ⟨⟨yb.1, by show _ < (16 : Int); omega⟩, fun m em => ih x' m (hx'.imp id (fun q => by omega)) (fun q => by omega) (fun _ => ?_)⟩
      rw [em]; split <;> omega
    refine c38_6 _ _ _ _ _ ⟨fun _ => ⟨ib, fun _ => go x _ (hx.imp id (fun q => by omega)), fun _ => ⟨fun _ => go i _ (Or.inr (by omega)), fun a => ?_⟩⟩, fun q => absurd (by rw [i32_lt, hn]; exact i1) q⟩
    have xb : 0 ≤ x.toInt ∧ x.toInt < i.toInt := by
      rcases hx with q | q
      · rw [i32_lt, q] at a; exact absurd (by decide) a
      · exact q
    refine ⟨⟨xb.1, by show _ < (16 : Int); omega⟩, fun m em => go m _ (Or.inr ?_)⟩
    rw [em]; split <;> omega
  · refine c38_6 _ _ _ _ _ ⟨fun q => absurd q (by rw [i32_lt, hn]; omega), fun _ => ⟨fun a => ?_, fun a => ?_⟩⟩
    · by_cases z : n = 0
      · have : y = -1 := hy (by omega)
        exact h0 z _ (by rw [this]; decide)
      · have := hz (by omega)
        exact h1 y this.1 (by omega)
    · rcases hx with q | q
      · rw [i32_lt, q] at a; exact absurd (by decide) a
      · exact h1 x q.1 (by omega)
/-- removeAt -/
theorem own_39 (s : St) (n : Nat) (i : Int32) (hn : (gI s 0 30).toInt = n) (h16 : n ≤ 16) (hi : 0 ≤ i.toInt ∧ i.toInt < n) (hw : ∀ j, j < n → gI s 12 j = 0 ∨ gI s 12 j = 1) (Q : St → Prop)
    (h : ∀ t, (∀ c j, c ≠ 10 → c ≠ 11 → c ≠ 12 → (c = 0 → j ≠ 30) → gI t c j = gI s c j) → (gI t 0 30).toInt = n - 1 → (∀ j, j + 1 < n → gI t 10 j = gI s 10 (if ix i ≤ j then j + 1 else j) ∧ gI t 11 j = gI s 11 (if ix i ≤ j then j + 1 else j) ∧ gI t 12 j = gI s 12 (if ix i ≤ j then j + 1 else j)) → Q t) : calV PP 39 16 [.ref 0, .int i] s Q := by
  apply c39_in
  have xi := ix_int hi.1
  refine loop_up (F := fun x => i.toInt ≤ x.toInt → ∀ u, (∀ c j, c ≠ 10 → c ≠ 11 → c ≠ 12 → gI u c j = gI s c j) → (∀ c j, (c = 10 ∨ c = 11 ∨ c = 12) → ix x ≤ j → gI u c j = gI s c j) → (∀ c j, (c = 10 ∨ c = 11 ∨ c = 12) → j < ix x → gI u c j = gI s c (if ix i ≤ j then j + 1 else j)) → wpcV PP 39 cm39 16 2 [some (.ref 0), none, some (.int x)] [] u Q) (n - 1) (by omega) (fun x x0 x1 e ih hx u ua ub uc => ?_) (fun x hx' hx u ua ub uc => ?_) i hi.1 (by omega) (Int.le_refl _) s (fun _ _ _ _ _ => rfl) (fun _ _ _ _ => rfl) (fun c j _ hj => by rw [if_neg (by omega)])
  · have xx := ix_int x0
    have xy := ix_int (i := x + 1) (by omega)
    have b0 : inb 16 x := ⟨x0, by show _ < (16 : Int); omega⟩
    have b1 : inb 16 (x + 1) := ⟨by omega, by show _ < (16 : Int); omega⟩
    have u30 : (gI u 0 30).toInt = n := by rw [ua 0 _ (by decide) (by decide) (by decide), hn]
    refine c39_2 _ _ _ ⟨fun _ => ⟨b1, b0, b1, b0, b1, b0, ?_⟩, fun q => absurd (by rw [i32_lt, u30]; omega) q⟩
    have r10 := ub 10 (ix (x + 1)) (Or.inl rfl) (by omega)
    have r11 := ub 11 (ix (x + 1)) (Or.inr (Or.inl rfl)) (by omega)
    have r12 := ub 12 (ix (x + 1)) (Or.inr (Or.inr rfl)) (by omega)
    have w12 : gI s 12 (ix (x + 1)) &&& 1 = gI s 12 (ix (x + 1)) := by
      rcases hw (ix (x + 1)) (by omega) with q | q <;> rw [q] <;> decide
    rw [r10, r11, r12, w12]
    refine ih (by omega) _ (fun c j a b d => ?_) (fun c j hc hj => ?_) (fun c j hc hj => ?_)
    · rw [gI_sI, if_neg (by omega), gI_sI, if_neg (by omega), gI_sI, if_neg (by omega), ua c j a b d]
    · rw [gI_sI, if_neg (by omega), gI_sI, if_neg (by omega), gI_sI, if_neg (by omega), ub c j hc (by omega)]
    · have e1 : ix (x + 1) = ix x + 1 := by omega
      by_cases w : j = ix x
      · subst w
        rw [if_pos (by omega), gI_sI, gI_sI, gI_sI]
        rcases hc with rfl | rfl | rfl
        · simp [e1]
        · simp [e1]
        · simp [e1]
      · rw [gI_sI, if_neg (by omega), gI_sI, if_neg (by omega), gI_sI, if_neg (by omega), uc c j hc (by omega)]
  · have xx := ix_int (i := x) (by omega)
    have e1 : (x + 1).toInt = x.toInt + 1 := by rw [i32_add] <;> simp <;> omega
    have u30 : (gI u 0 30).toInt = n := by rw [ua 0 _ (by decide) (by decide) (by decide), hn]
    have e2 : (gI u 0 30 - 1).toInt = (gI u 0 30).toInt - 1 := by rw [i32_sub] <;> simp <;> omega
    refine c39_2 _ _ _ ⟨fun q => absurd q (by rw [i32_lt, u30]; omega), fun _ => h _ (fun c j a b d f => ?_) ?_ (fun j hj => ?_)⟩
    · rw [gI_sI, if_neg (fun k => f k.1 k.2), ua c j a b d]
    · rw [gI_sI, if_pos ⟨rfl, rfl⟩, e2, u30]
    · have g : ∀ c v, c ≠ 0 → gI (sI u 0 30 v) c j = gI u c j := fun c v hc => by rw [gI_sI, if_neg (fun q => hc q.1)]
      rw [g 10 _ (by decide), g 11 _ (by decide), g 12 _ (by decide)]
      exact ⟨uc 10 j (by omega) (by omega), uc 11 j (by omega) (by omega), uc 12 j (by omega) (by omega)⟩
/-- transfer, inwards -/
theorem own_41r (s : St) (k b : Int32) (hk : 0 ≤ k.toInt ∧ k.toInt < 8) (hb : 0 ≤ b.toInt ∧ b.toInt < 32) (Q : St → Prop)
    (h : ∀ t, (∀ c j, c ≠ 3 → c ≠ 5 → c ≠ 6 → gI t c j = gI s c j) → (∀ j, gI t 5 j = if j = ix k then 1 else gI s 5 j) → (∀ j, gI t 6 j = if j = ix k then 0 else gI s 6 j) → (∀ w, w < 4 → gI t 3 (4 * ix k + w) = gI s 1 (4 * ix b + w)) → (∀ j, j < 4 * ix k ∨ 4 * ix k + 4 ≤ j → gI t 3 j = gI s 3 j) → Q t) : calV PP 41 16 [.ref 0, .int k, .int b, .int 0] s Q := by
  apply c41_in
  refine ⟨fun _ => ?_, fun q => absurd rfl q⟩
  have kb : inb 8 k := hk
  have xk := ix_int hk.1
  have xb := ix_int hb.1
  refine loop_up (F := fun x => ∀ u, (∀ c j, c ≠ 3 → gI u c j = gI s c j) → (∀ w, w < ix x → gI u 3 (4 * ix k + w) = gI s 1 (4 * ix b + w)) → (∀ j, j < 4 * ix k ∨ 4 * ix k + 4 ≤ j → gI u 3 j = gI s 3 j) → wpcV PP 41 cm41 16 62 [some (.ref 0), some (.int k), none, none, some (.int (k * 4)), some (.int (b * 4)), some (.int x)] [] u Q) 4 (by decide) (fun x x0 x1 e ih u ua uc ud => ?_) (fun x hx u ua uc ud => ?_) 0 (by decide) (by decide) s (fun _ _ _ => rfl) (fun w hw => absurd hw (by simp [ix])) (fun _ _ => rfl)
  · obtain ⟨f1, f2⟩ := own_x4 (k := k) (w := x) (N := 32) (by omega) (by decide) ⟨x0, x1⟩
    obtain ⟨g1, g2⟩ := own_x4 (k := b) (w := x) (N := 32) hb (by decide) ⟨x0, x1⟩
    have xx := ix_int x0
    have xy := ix_int (i := x + 1) (by omega)
    refine c41_62 _ _ _ _ _ _ ⟨fun _ => ⟨⟨by omega, by show _ < (128 : Int); omega⟩, ⟨by omega, by show _ < (32 : Int); omega⟩, ih _ (fun c j a => by rw [gI_sI, if_neg (fun q => a q.1), ua c j a]) (fun w hw => ?_) (fun j hj => ?_)⟩, fun q => absurd (by rw [i32_lt]; exact x1) q⟩
    · rw [gI_sI, f2, g2]
      by_cases v : w = ix x
      · rw [if_pos ⟨rfl, by omega⟩, ua 1 _ (by decide), v]
      · rw [if_neg (by omega), uc w (by omega)]
    · rw [gI_sI, f2, if_neg (by omega), ud j hj]
  · have xx := ix_int (i := x) (by omega)
    refine c41_62 _ _ _ _ _ _ ⟨fun q => absurd q (by rw [i32_lt, hx]; decide), fun _ => ⟨kb, kb, h _ (fun c j a b d => ?_) (fun j => ?_) (fun j => ?_) (fun w hw => ?_) (fun j hj => ?_)⟩⟩
    · rw [gI_sI, if_neg (fun q => d q.1), gI_sI, if_neg (fun q => b q.1), ua c j a]
    · rw [gI_sI, if_neg (by omega), gI_sI]
      by_cases v : j = ix k
      · rw [if_pos ⟨rfl, v⟩, if_pos v]
      · rw [if_neg (fun q => v q.2), if_neg v, ua 5 _ (by decide)]
    · rw [gI_sI]
      by_cases v : j = ix k
      · rw [if_pos ⟨rfl, v⟩, if_pos v]
      · rw [if_neg (fun q => v q.2), if_neg v, gI_sI, if_neg (by omega), ua 6 _ (by decide)]
    · rw [gI_sI, if_neg (by omega), gI_sI, if_neg (by omega), uc w (by omega)]
    · rw [gI_sI, if_neg (by omega), gI_sI, if_neg (by omega), ud j hj]
/-- transfer, outwards -/
theorem own_41w (s : St) (k b : Int32) (hk : 0 ≤ k.toInt ∧ k.toInt < 8) (hb : 0 ≤ b.toInt ∧ b.toInt < 32) (Q : St → Prop)
    (h : ∀ t, (∀ c j, c ≠ 1 → c ≠ 6 → gI t c j = gI s c j) → (∀ j, gI t 6 j = if j = ix k then 0 else gI s 6 j) → (∀ w, w < 4 → gI t 1 (4 * ix b + w) = gI s 3 (4 * ix k + w)) → (∀ j, j < 4 * ix b ∨ 4 * ix b + 4 ≤ j → gI t 1 j = gI s 1 j) → Q t) : calV PP 41 16 [.ref 0, .int k, .int b, .int 1] s Q := by
  apply c41_in
  refine ⟨fun q => absurd q (by decide), fun _ => ?_⟩
  have kb : inb 8 k := hk
  have xk := ix_int hk.1
  have xb := ix_int hb.1
  refine loop_up (F := fun x => ∀ u, (∀ c j, c ≠ 1 → gI u c j = gI s c j) → (∀ w, w < ix x → gI u 1 (4 * ix b + w) = gI s 3 (4 * ix k + w)) → (∀ j, j < 4 * ix b ∨ 4 * ix b + 4 ≤ j → gI u 1 j = gI s 1 j) → wpcV PP 41 cm41 16 17 [some (.ref 0), some (.int k), none, none, some (.int (k * 4)), some (.int (b * 4)), some (.int x)] [] u Q) 4 (by decide) (fun x x0 x1 e ih u ua uc ud => ?_) (fun x hx u ua uc ud => ?_) 0 (by decide) (by decide) s (fun _ _ _ => rfl) (fun w hw => absurd hw (by simp [ix])) (fun _ _ => rfl)
  · obtain ⟨f1, f2⟩ := own_x4 (k := k) (w := x) (N := 32) (by omega) (by decide) ⟨x0, x1⟩
    obtain ⟨g1, g2⟩ := own_x4 (k := b) (w := x) (N := 32) hb (by decide) ⟨x0, x1⟩
    have xx := ix_int x0
    have xy := ix_int (i := x + 1) (by omega)
    refine c41_17 _ _ _ _ _ _ ⟨fun _ => ⟨⟨by omega, by show _ < (32 : Int); omega⟩, ⟨by omega, by show _ < (128 : Int); omega⟩, ih _ (fun c j a => by rw [gI_sI, if_neg (fun q => a q.1), ua c j a]) (fun w hw => ?_) (fun j hj => ?_)⟩, fun q => absurd (by rw [i32_lt]; exact x1) q⟩
    · rw [gI_sI, f2, g2]
      by_cases v : w = ix x
      · rw [if_pos ⟨rfl, by omega⟩, ua 3 _ (by decide), v]
      · rw [if_neg (by omega), uc w (by omega)]
    · rw [gI_sI, g2, if_neg (by omega), ud j hj]
  · have xx := ix_int (i := x) (by omega)
    refine c41_17 _ _ _ _ _ _ ⟨fun q => absurd q (by rw [i32_lt, hx]; decide), fun _ => ⟨kb, h _ (fun c j a b => ?_) (fun j => ?_) (fun w hw => ?_) (fun j hj => ?_)⟩⟩
    · rw [gI_sI, if_neg (fun q => b q.1), ua c j a]
    · rw [gI_sI]
      by_cases v : j = ix k
      · rw [if_pos ⟨rfl, v⟩, if_pos v]
      · rw [if_neg (fun q => v q.2), if_neg v, ua 6 _ (by decide)]
    · rw [gI_sI, if_neg (by omega), uc w (by omega)]
    · rw [gI_sI, if_neg (by omega), ud j hj]
/-- wake -/
theorem own_42 (s : St) (k : Int32) (P : Nat) (hP : (gI s 0 16).toInt = P) (h4 : P ≤ 4) (Q : St → Prop) (h : ∀ t, (∀ c j, c ≠ 16 → gI t c j = gI s c j) → Q t) : calV PP 42 16 [.ref 0, .int k] s Q := by
  apply c42_in
  refine loop_up (F := fun x => ∀ u, (∀ c j, c ≠ 16 → gI u c j = gI s c j) → wpcV PP 42 cm42 16 2 [some (.ref 0), some (.int k), some (.int x)] [] u Q) P (by omega) (fun x x0 x1 e ih u ua => ?_) (fun x hx u ua => ?_) 0 (by decide) (by simp) s (fun _ _ _ => rfl)
  · have xb : inb 4 x := ⟨x0, by show _ < (4 : Int); omega⟩
    exact c42_2 _ _ _ _ ⟨fun _ => ⟨xb, fun _ => ⟨xb, c42_27 _ _ _ _ (ih _ fun c j a => by rw [gI_sI, if_neg (fun q => a q.1), ua c j a])⟩, fun _ => c42_27 _ _ _ _ (ih u ua)⟩, fun q => absurd (by rw [i32_lt, ua 0 _ (by decide), hP]; exact x1) q⟩
  · exact c42_2 _ _ _ _ ⟨fun q => absurd q (by rw [i32_lt, ua 0 _ (by decide), hP]; omega), fun _ => h u ua⟩

/-- how many of the first k buffers are busy -/
def own_cb (s : St) : Nat → Nat
  | 0 => 0
  | k + 1 => own_cb s k + (if gI s 7 k = 0 then 0 else 1)
theorem own_cb_le (s : St) : ∀ k, own_cb s k ≤ k
  | 0 => Nat.le_refl _
  | k + 1 => by have := own_cb_le s k; unfold own_cb; split <;> omega
theorem own_cb_eq {s t : St} : ∀ {k}, (∀ j, j < k → gI t 7 j = gI s 7 j) → own_cb t k = own_cb s k
  | 0, _ => rfl
  | k + 1, h => by unfold own_cb; rw [own_cb_eq (fun j hj => h j (by omega)), h k (by omega)]
theorem own_cb_set {s t : St} {F k : Nat} (hk : k < F) (h : ∀ j, j ≠ k → gI t 7 j = gI s 7 j) : own_cb t F + (if gI s 7 k = 0 then 0 else 1) = own_cb s F + (if gI t 7 k = 0 then 0 else 1) := by
  induction F with
  | zero => omega
  | succ F ih =>
    unfold own_cb
    by_cases w : k = F
    · subst w
      rw [own_cb_eq (s := s) (t := t) (fun j hj => h j (by omega))]; omega
    · have := ih (by omega)
      rw [h F (by omega)]; omega
theorem own_cb_pos {s : St} : ∀ {F k : Nat}, k < F → gI s 7 k ≠ 0 → 0 < own_cb s F
  | 0, k, hk, _ => absurd hk (by omega)
  | F + 1, k, hk, h => by
    unfold own_cb
    by_cases w : k = F
    · subst w; rw [if_neg h]; omega
    · have := own_cb_pos (F := F) (k := k) (by omega) h; omega
/-- one queue entry -/
def own_q1 (B F : Nat) (s : St) (i : Nat) : Prop := (0 ≤ (gI s 10 i).toInt ∧ (gI s 10 i).toInt < F) ∧ gI s 11 i = gI s 4 (ix (gI s 10 i)) ∧ (0 ≤ (gI s 11 i).toInt ∧ (gI s 11 i).toInt < B) ∧ gI s 7 (ix (gI s 10 i)) ≠ 0 ∧ ((gI s 12 i = 0 ∧ gI s 5 (ix (gI s 10 i)) = 0) ∨ (gI s 12 i = 1 ∧ gI s 5 (ix (gI s 10 i)) ≠ 0))
def own_c (B F P : Nat) (s : St) : Prop := (gI s 0 14).toInt = B ∧ (gI s 0 15).toInt = F ∧ (gI s 0 16).toInt = P ∧ 8 ≤ B ∧ B ≤ 32 ∧ 2 ≤ F ∧ F ≤ 8 ∧ 1 ≤ P ∧ P ≤ 4
/-- the buffers: each block in one at the most, a clean one as the disk is -/
def own_b (B F : Nat) (s : St) : Prop := (∀ k, k < F → (gI s 4 k).toInt = -1 ∨ (0 ≤ (gI s 4 k).toInt ∧ (gI s 4 k).toInt < B)) ∧ (∀ k l, k < F → l < F → gI s 4 k = gI s 4 l → 0 ≤ (gI s 4 k).toInt → k = l) ∧ (∀ k, k < F → 0 ≤ (gI s 4 k).toInt → gI s 5 k ≠ 0 → gI s 6 k = 0 → ∀ w, w < 4 → gI s 3 (4 * k + w) = gI s 1 (4 * ix (gI s 4 k) + w))
/-- L is what the cache holds -/
def own_A (B F : Nat) (L : Nat → Nat → Int32) (s : St) : Prop := ∀ b : Int32, 0 ≤ b.toInt → b.toInt < B → ∀ w, w < 4 → (∀ k, k < F → gI s 4 k = b → gI s 5 k ≠ 0 → gI s 3 (4 * k + w) = L (ix b) w) ∧ ((∀ k, k < F → gI s 4 k = b → gI s 5 k = 0) → gI s 1 (4 * ix b + w) = L (ix b) w)
def own_N (B : Nat) (L : Nat → Nat → Int32) (s : St) : Prop := ∀ b, b < B → gI s 2 b ≠ 0 → ∀ w, w < 4 → gI s 1 (4 * b + w) = L b w
def own_J (B F P : Nat) (L : Nat → Nat → Int32) (s : St) (n : Nat) : Prop := own_c B F P s ∧ (gI s 0 30).toInt = n ∧ n = own_cb s F ∧ (∀ i, i < n → own_q1 B F s i) ∧ (∀ i j, i < n → j < n → gI s 10 i = gI s 10 j → i = j) ∧ own_b B F s ∧ own_A B F L s ∧ own_N B L s
/-- what an interrupt leaves alone -/
def own_S (s t : St) : Prop := ∀ c j, (c = 2 ∨ c = 4 ∨ c = 8 ∨ c = 9 ∨ c = 13 ∨ c = 14 ∨ c = 15 ∨ (c = 0 ∧ j ≠ 30 ∧ j ≠ 31)) → gI t c j = gI s c j
theorem own_40 (B F P : Nat) (L : Nat → Nat → Int32) (s : St) (n : Nat) (J : own_J B F P L s n) (Q : Int32 → St → Prop) (h0 : n = 0 → Q 0 s)
    (h1 : ∀ t k, n ≠ 0 → k < F → own_J B F P L t (n - 1) → own_S s t → gI s 7 k ≠ 0 → gI t 7 k = 0 → gI t 6 k = 0 → gI t 5 k ≠ 0 → (∀ l, l ≠ k → gI t 5 l = gI s 5 l ∧ gI t 6 l = gI s 6 l ∧ gI t 7 l = gI s 7 l) → Q 1 t) : calI PP 40 16 [.ref 0] s Q := by
  obtain ⟨C, hn, hc, hq, hd, ⟨b1, b2, b3⟩, hA, hN⟩ := J
  obtain ⟨c14, c15, c16, B8, B32, F2, F8, P1, P4⟩ := id C
  have nF : n ≤ F := by rw [hc]; exact own_cb_le s F
  apply c40_in
  refine own_38 s n hn (by omega) _ (fun z v hv => ⟨fun _ => h0 z, fun q => absurd hv q⟩) fun i i0 i1 => ?_
  have xi := ix_int i0
  have ib : inb 16 i := ⟨i0, by show _ < (16 : Int); omega⟩
  refine ⟨fun q => absurd q (by rw [i32_lt]; simp; omega), fun _ => ⟨ib, ib, ib, ?_⟩⟩
  obtain ⟨⟨k0, kF⟩, eb, ⟨bb0, bbB⟩, kb, kw⟩ := hq (ix i) (by omega)
  generalize ek : gI s 10 (ix i) = k at k0 kF eb kb kw ⊢
  generalize ebl : gI s 11 (ix i) = b at eb bb0 bbB ⊢
  have xk := ix_int k0
  have xb := ix_int bb0
  have hw01 : ∀ j, j < n → gI s 12 j = 0 ∨ gI s 12 j = 1 := fun j hj => by
    obtain ⟨_, _, _, _, q⟩ := hq j hj
    exact q.imp (fun q => q.1) (fun q => q.1)
  refine own_39 s n i hn (by omega) ⟨i0, i1⟩ hw01 _ fun t ta t30 tq => ?_
  have t15 : gI t 0 15 = gI s 0 15 := ta 0 _ (by decide) (by decide) (by decide) (by decide)
  apply c22_in
  refine ⟨fun q => absurd q (by rw [i32_lt]; simp; omega), fun _ => ⟨fun _ => ⟨fun q => absurd q (by decide), fun _ => ⟨fun q => absurd q (by rw [i32_lt]; simp; omega), fun _ => ⟨fun _ => ?_, fun q => absurd (by rw [i32_lt]; simp; omega) q⟩⟩⟩, fun q => absurd (by rw [i32_lt, t15, c15]; exact kF) q⟩⟩
  have tc : ∀ c j, c ≠ 0 → c ≠ 10 → c ≠ 11 → c ≠ 12 → gI t c j = gI s c j := fun c j h a b d => ta c j a b d (fun q => absurd q h)
  -- the end, from the state after the transfer
  have fin : ∀ u, (∀ c j, c ≠ 1 → c ≠ 3 → c ≠ 5 → c ≠ 6 → gI u c j = gI t c j) → (∀ l, l ≠ ix k → gI u 5 l = gI s 5 l ∧ gI u 6 l = gI s 6 l) → gI u 6 (ix k) = 0 → gI u 5 (ix k) ≠ 0 → (∀ l, l ≠ ix k → l < F → ∀ w, w < 4 → gI u 3 (4 * l + w) = gI s 3 (4 * l + w)) → (∀ w, w < 4 → gI u 3 (4 * ix k + w) = L (ix b) w) → (∀ w, w < 4 → gI u 1 (4 * ix b + w) = L (ix b) w) → (∀ b', b' ≠ ix b → ∀ w, w < 4 → gI u 1 (4 * b' + w) = gI s 1 (4 * b' + w)) → inb 8 k ∧ calV PP 42 16 [.ref 0, .int k] (sI (sI u 0 31 b) 7 (ix k) (0 : Int32)) (fun s330 => Q (1 : Int32) s330) := by
    intro u ua u56 u6 u5 u3 u3k u1b u1
    refine ⟨⟨k0, by show _ < (8 : Int); omega⟩, ?_⟩
    refine own_42 _ k P (by rw [gI_sI, if_neg (by omega), gI_sI, if_neg (by omega), ua 0 _ (by decide) (by decide) (by decide) (by decide), ta 0 _ (by decide) (by decide) (by decide) (by decide), c16]) P4 _ fun v vc => ?_
    have v0 : ∀ j, j ≠ 31 → gI v 0 j = gI u 0 j := fun j hj => by rw [vc 0 j (by decide), gI_sI, if_neg (by omega), gI_sI, if_neg (by omega)]
    have v7 : ∀ l, l ≠ ix k → gI v 7 l = gI s 7 l := fun l hl => by rw [vc 7 _ (by decide), gI_sI, if_neg (by omega), gI_sI, if_neg (by omega), ua 7 _ (by decide) (by decide) (by decide) (by decide), tc 7 _ (by decide) (by decide) (by decide) (by decide)]
    have v7k : gI v 7 (ix k) = 0 := by rw [vc 7 _ (by decide), gI_sI, if_pos ⟨rfl, rfl⟩]
    have vu : ∀ c j, c ≠ 0 → c ≠ 7 → c ≠ 16 → gI v c j = gI u c j := fun c j a b d => by rw [vc c j d, gI_sI, if_neg (by omega), gI_sI, if_neg (by omega)]
    have vs : ∀ c j, c ≠ 0 → c ≠ 1 → c ≠ 3 → c ≠ 5 → c ≠ 6 → c ≠ 7 → c ≠ 10 → c ≠ 11 → c ≠ 12 → c ≠ 16 → gI v c j = gI s c j := fun c j a0 a1 a3 a5 a6 a7 a10 a11 a12 a16 => by rw [vu c j a0 a7 a16, ua c j a1 a3 a5 a6, tc c j a0 a10 a11 a12]
    have v4 : ∀ j, gI v 4 j = gI s 4 j := fun j => vs 4 j (by decide) (by decide) (by decide) (by decide) (by decide) (by decide) (by decide) (by decide) (by decide) (by decide)
    have v5 : ∀ l, l ≠ ix k → gI v 5 l = gI s 5 l := fun l hl => by rw [vu 5 _ (by decide) (by decide) (by decide), (u56 l hl).1]
    have v6 : ∀ l, l ≠ ix k → gI v 6 l = gI s 6 l := fun l hl => by rw [vu 6 _ (by decide) (by decide) (by decide), (u56 l hl).2]
    have v5k : gI v 5 (ix k) ≠ 0 := by rw [vu 5 _ (by decide) (by decide) (by decide)]; exact u5
    have v6k : gI v 6 (ix k) = 0 := by rw [vu 6 _ (by decide) (by decide) (by decide)]; exact u6
    have v3 : ∀ l, l ≠ ix k → l < F → ∀ w, w < 4 → gI v 3 (4 * l + w) = gI s 3 (4 * l + w) := fun l a b w hw => by rw [vu 3 _ (by decide) (by decide) (by decide), u3 l a b w hw]
    have v3k : ∀ w, w < 4 → gI v 3 (4 * ix k + w) = L (ix b) w := fun w hw => by rw [vu 3 _ (by decide) (by decide) (by decide), u3k w hw]
    have v1b : ∀ w, w < 4 → gI v 1 (4 * ix b + w) = L (ix b) w := fun w hw => by rw [vu 1 _ (by decide) (by decide) (by decide), u1b w hw]
    have v1 : ∀ b', b' ≠ ix b → ∀ w, w < 4 → gI v 1 (4 * b' + w) = gI s 1 (4 * b' + w) := fun b' hb w hw => by rw [vu 1 _ (by decide) (by decide) (by decide), u1 b' hb w hw]
    have v30 : (gI v 0 30).toInt = n - 1 := by rw [v0 _ (by decide), ua 0 _ (by decide) (by decide) (by decide) (by decide), t30]
    have vs0 : ∀ j, j ≠ 30 → j ≠ 31 → gI v 0 j = gI s 0 j := fun j a b => by rw [v0 j b, ua 0 _ (by decide) (by decide) (by decide) (by decide), ta 0 _ (by decide) (by decide) (by decide) (fun _ => a)]
    have vq : ∀ j, j + 1 < n → gI v 10 j = gI s 10 (if ix i ≤ j then j + 1 else j) ∧ gI v 11 j = gI s 11 (if ix i ≤ j then j + 1 else j) ∧ gI v 12 j = gI s 12 (if ix i ≤ j then j + 1 else j) := fun j hj => by
      rw [vu 10 _ (by decide) (by decide) (by decide), vu 11 _ (by decide) (by decide) (by decide), vu 12 _ (by decide) (by decide) (by decide), ua 10 _ (by decide) (by decide) (by decide) (by decide), ua 11 _ (by decide) (by decide) (by decide) (by decide), ua 12 _ (by decide) (by decide) (by decide) (by decide)]
      exact tq j hj
    have e4k : gI s 4 (ix k) = b := eb.symm
    have other : ∀ l, l < F → l ≠ ix k → gI s 4 l ≠ b := fun l hl hk q => hk (b2 l (ix k) hl (by omega) (by rw [q, e4k]) (by rw [q]; exact bb0))
    refine h1 v (ix k) (by omega) (by omega) ⟨?_, ?_, ?_, fun j hj => ?_, fun p q hp hq' e => ?_, ⟨fun l hl => ?_, fun l m hl hm e e0 => ?_, fun l hl l0 lv ld w hw => ?_⟩, fun b' b0 bB w hw => ⟨fun l hl el lv => ?_, fun hall => ?_⟩, fun b' bB kn w hw => ?_⟩ (fun c j hc => ?_) kb v7k v6k v5k (fun l hl => ⟨v5 l hl, v6 l hl, v7 l hl⟩)
    · exact ⟨by rw [vs0 _ (by decide) (by decide), c14], by rw [vs0 _ (by decide) (by decide), c15], by rw [vs0 _ (by decide) (by decide), c16], B8, B32, F2, F8, P1, P4⟩
    · rw [v30]; omega
    · have := own_cb_set (s := s) (t := v) (F := F) (k := ix k) (by omega) (fun j hj => v7 j hj)
      rw [if_neg kb, if_pos v7k] at this
      omega
    · obtain ⟨q10, q11, q12⟩ := vq j (by omega)
      have ne : (if ix i ≤ j then j + 1 else j) ≠ ix i := by split <;> omega
      have lt : (if ix i ≤ j then j + 1 else j) < n := by split <;> omega
      generalize (if ix i ≤ j then j + 1 else j) = m at q10 q11 q12 ne lt
      obtain ⟨p1, p2, p3, p4, p5⟩ := hq m lt
      have dk : ix (gI s 10 m) ≠ ix k := fun q => by
        have : gI s 10 m = k := (ix_inj p1.1 k0).mp q
        exact ne (hd m (ix i) lt (by omega) (by rw [this, ek]))
      refine ⟨by rw [q10]; exact p1, by rw [q11, q10, v4, p2], by rw [q11]; exact p3, by rw [q10, v7 _ dk]; exact p4, ?_⟩
      rw [q12, q10, v5 _ dk]; exact p5
    · rw [(vq p (by omega)).1, (vq q (by omega)).1] at e
      have := hd _ _ (by split <;> omega) (by split <;> omega) e
      revert this; split <;> split <;> omega
    · rw [v4]; exact b1 l hl
    · rw [v4, v4] at e; rw [v4] at e0; exact b2 l m hl hm e e0
    · rw [v4] at l0 ⊢
      by_cases z : l = ix k
      · subst z; rw [e4k, v3k w hw, v1b w hw]
      · have ob := other l hl z
        rw [v5 l z] at lv; rw [v6 l z] at ld
        rw [v3 l z hl w hw, v1 _ (fun q => ob ((ix_inj l0 bb0).mp q)) w hw]
        exact b3 l hl l0 lv ld w hw
    · rw [v4] at el
      by_cases z : l = ix k
      · subst z
        have : b' = b := by rw [← el, e4k]
        subst this; exact v3k w hw
      · rw [v5 l z] at lv
        rw [v3 l z hl w hw]
        exact (hA b' b0 bB w hw).1 l hl el lv
    · by_cases z : b' = b
      · subst z; exact v1b w hw
      · rw [v1 _ (fun q => z ((ix_inj b0 bb0).mp q)) w hw]
        refine (hA b' b0 bB w hw).2 fun l hl el => ?_
        have zl : l ≠ ix k := fun q => z (by rw [← el, q, e4k])
        have := hall l hl (by rw [v4]; exact el)
        rw [v5 l zl] at this; exact this
    · by_cases z : b' = ix b
      · subst z; exact v1b w hw
      · rw [v1 _ z w hw]
        exact hN b' bB (by rw [← vs 2 _ (by decide) (by decide) (by decide) (by decide) (by decide) (by decide) (by decide) (by decide) (by decide) (by decide)]; exact kn) w hw
    · rcases hc with rfl | rfl | rfl | rfl | rfl | rfl | rfl | ⟨rfl, a, b⟩
      · exact vs 2 _ (by decide) (by decide) (by decide) (by decide) (by decide) (by decide) (by decide) (by decide) (by decide) (by decide)
      · exact v4 _
      · exact vs 8 _ (by decide) (by decide) (by decide) (by decide) (by decide) (by decide) (by decide) (by decide) (by decide) (by decide)
      · exact vs 9 _ (by decide) (by decide) (by decide) (by decide) (by decide) (by decide) (by decide) (by decide) (by decide) (by decide)
      · exact vs 13 _ (by decide) (by decide) (by decide) (by decide) (by decide) (by decide) (by decide) (by decide) (by decide) (by decide)
      · exact vs 14 _ (by decide) (by decide) (by decide) (by decide) (by decide) (by decide) (by decide) (by decide) (by decide) (by decide)
      · exact vs 15 _ (by decide) (by decide) (by decide) (by decide) (by decide) (by decide) (by decide) (by decide) (by decide) (by decide)
      · exact vs0 j a b
  have uq : ∀ l, l < F → gI s 4 l = b → l = ix k := fun l hl e => b2 l (ix k) hl (by omega) (by rw [e, eb]) (by rw [e]; exact bb0)
  rcases kw with ⟨w0, wv⟩ | ⟨w1, wv⟩
  · rw [w0]
    have Lb : ∀ w, w < 4 → gI s 1 (4 * ix b + w) = L (ix b) w := fun w hw => (hA b bb0 bbB w hw).2 fun l hl e => by rw [uq l hl e]; exact wv
    refine own_41r t k b ⟨k0, by omega⟩ ⟨bb0, by omega⟩ _ fun u ua u5 u6 u3 u3' => fin u (fun c j a b d f => ua c j b d f) (fun l hl => ⟨?_, ?_⟩) ?_ ?_ (fun l hl lF w hw => ?_) (fun w hw => ?_) (fun w hw => ?_) (fun b' hb w hw => ?_)
    · rw [u5, if_neg hl, tc 5 _ (by decide) (by decide) (by decide) (by decide)]
    · rw [u6, if_neg hl, tc 6 _ (by decide) (by decide) (by decide) (by decide)]
    · rw [u6, if_pos rfl]
    · rw [u5, if_pos rfl]; decide
    · rw [u3' _ (by omega), tc 3 _ (by decide) (by decide) (by decide) (by decide)]
    · rw [u3 w hw, tc 1 _ (by decide) (by decide) (by decide) (by decide), Lb w hw]
    · rw [ua 1 _ (by decide) (by decide) (by decide), tc 1 _ (by decide) (by decide) (by decide) (by decide), Lb w hw]
    · rw [ua 1 _ (by decide) (by decide) (by decide), tc 1 _ (by decide) (by decide) (by decide) (by decide)]
  · rw [w1]
    have Lb : ∀ w, w < 4 → gI s 3 (4 * ix k + w) = L (ix b) w := fun w hw => (hA b bb0 bbB w hw).1 (ix k) (by omega) eb.symm wv
    refine own_41w t k b ⟨k0, by omega⟩ ⟨bb0, by omega⟩ _ fun u ua u6 u1 u1' => fin u (fun c j a b d f => ua c j a f) (fun l hl => ⟨?_, ?_⟩) ?_ ?_ (fun l hl lF w hw => ?_) (fun w hw => ?_) (fun w hw => ?_) (fun b' hb w hw => ?_)
    · rw [ua 5 _ (by decide) (by decide), tc 5 _ (by decide) (by decide) (by decide) (by decide)]
    · rw [u6, if_neg hl, tc 6 _ (by decide) (by decide) (by decide) (by decide)]
    · rw [u6, if_pos rfl]
    · rw [ua 5 _ (by decide) (by decide), tc 5 _ (by decide) (by decide) (by decide) (by decide)]; exact wv
    · rw [ua 3 _ (by decide) (by decide), tc 3 _ (by decide) (by decide) (by decide) (by decide)]
    · rw [ua 3 _ (by decide) (by decide), tc 3 _ (by decide) (by decide) (by decide) (by decide), Lb w hw]
    · rw [u1 w hw, tc 3 _ (by decide) (by decide) (by decide) (by decide), Lb w hw]
    · rw [u1' _ (by omega), tc 1 _ (by decide) (by decide) (by decide) (by decide)]
theorem own_J_fr {B F P : Nat} {L : Nat → Nat → Int32} {s t : St} {n : Nat} (J : own_J B F P L s n) (h : ∀ c j, (1 ≤ c ∧ c ≤ 7 ∨ 10 ≤ c ∧ c ≤ 12 ∨ (c = 0 ∧ j ≠ 26 ∧ j ≠ 31)) → gI t c j = gI s c j) : own_J B F P L t n := by
  obtain ⟨⟨c14, c15, c16, cr⟩, hn, hc, hq, hd, ⟨b1, b2, b3⟩, hA, hN⟩ := J
  have h1 : ∀ j, gI t 1 j = gI s 1 j := fun j => h 1 j (by omega)
  have h2 : ∀ j, gI t 2 j = gI s 2 j := fun j => h 2 j (by omega)
  have h3 : ∀ j, gI t 3 j = gI s 3 j := fun j => h 3 j (by omega)
  have h4 : ∀ j, gI t 4 j = gI s 4 j := fun j => h 4 j (by omega)
  have h5 : ∀ j, gI t 5 j = gI s 5 j := fun j => h 5 j (by omega)
  have h6 : ∀ j, gI t 6 j = gI s 6 j := fun j => h 6 j (by omega)
  have h7 : ∀ j, gI t 7 j = gI s 7 j := fun j => h 7 j (by omega)
  have h10 : ∀ j, gI t 10 j = gI s 10 j := fun j => h 10 j (by omega)
  have h11 : ∀ j, gI t 11 j = gI s 11 j := fun j => h 11 j (by omega)
  have h12 : ∀ j, gI t 12 j = gI s 12 j := fun j => h 12 j (by omega)
  refine ⟨⟨by rw [h 0 14 (by omega), c14], by rw [h 0 15 (by omega), c15], by rw [h 0 16 (by omega), c16], cr⟩, by rw [h 0 30 (by omega), hn], by rw [hc]; exact (own_cb_eq (fun j _ => h7 j)).symm, fun i hi => ?_, fun i j hi hj e => ?_, ⟨fun k hk => ?_, fun k l hk hl e e0 => ?_, fun k hk k0 kv kd w hw => ?_⟩, fun b b0 bB w hw => ⟨fun k hk e v => ?_, fun ha => ?_⟩, fun b bB kn w hw => ?_⟩
  · unfold own_q1; simp only [h10, h11, h12, h4, h5, h7]; exact hq i hi
  · rw [h10, h10] at e; exact hd i j hi hj e
  · rw [h4]; exact b1 k hk
  · rw [h4, h4] at e; rw [h4] at e0; exact b2 k l hk hl e e0
  · rw [h4] at k0; rw [h5] at kv; rw [h6] at kd; rw [h3, h1, h4]; exact b3 k hk k0 kv kd w hw
  · rw [h4] at e; rw [h5] at v; rw [h3]; exact (hA b b0 bB w hw).1 k hk e v
  · rw [h1]; exact (hA b b0 bB w hw).2 fun k hk e => by rw [← h5]; exact ha k hk (by rw [h4]; exact e)
  · rw [h2] at kn; rw [h1]; exact hN b bB kn w hw
/-- what interrupts, and the queueing of dirty buffers, keep -/
def own_T (s t : St) : Prop := own_S s t ∧ ∀ l, (gI s 5 l ≠ 0 → gI t 5 l ≠ 0) ∧ ((gI s 7 l ≠ 0 ∨ gI s 6 l = 0) → (gI t 7 l ≠ 0 ∨ gI t 6 l = 0)) ∧ (gI s 7 l ≠ 0 → gI t 7 l = 0 → gI t 5 l ≠ 0)
theorem own_T_rfl (s : St) : own_T s s := ⟨fun _ _ _ => rfl, fun l => ⟨id, id, fun a b => absurd b a⟩⟩
theorem own_T_tr {s t u : St} (a : own_T s t) (b : own_T t u) : own_T s u := by
  refine ⟨fun c j h => by rw [b.1 c j h, a.1 c j h], fun l => ⟨fun h => (b.2 l).1 ((a.2 l).1 h), fun h => (b.2 l).2.1 ((a.2 l).2.1 h), fun h h' => ?_⟩⟩
  by_cases z : gI t 7 l = 0
  · exact (b.2 l).1 ((a.2 l).2.2 h z)
  · exact (b.2 l).2.2 z h'
theorem own_40T {s t : St} {k : Nat} (h1 : own_S s t) (h2 : gI s 7 k ≠ 0) (h3 : gI t 7 k = 0) (h4 : gI t 6 k = 0) (h5 : gI t 5 k ≠ 0) (h6 : ∀ l, l ≠ k → gI t 5 l = gI s 5 l ∧ gI t 6 l = gI s 6 l ∧ gI t 7 l = gI s 7 l) : own_T s t := by
  refine ⟨h1, fun l => ?_⟩
  by_cases z : l = k
  · subst z; exact ⟨fun _ => h5, fun _ => Or.inr h4, fun _ _ => h5⟩
  · obtain ⟨a, b, c⟩ := h6 l z
    rw [a, b, c]; exact ⟨id, id, fun p q => absurd q p⟩
theorem own_T_16 {s : St} {j : Nat} {v : Int32} : own_T s (sI s 16 j v) := by
  have e : ∀ c i, c ≠ 16 → gI (sI s 16 j v) c i = gI s c i := fun c i h => by rw [gI_sI, if_neg (fun q => h q.1)]
  refine ⟨fun c i h => e c i (by omega), fun l => ?_⟩
  rw [e 5 _ (by decide), e 6 _ (by decide), e 7 _ (by decide)]
  exact ⟨id, id, fun p q => absurd q p⟩
theorem own_J_16 {B F P : Nat} {L : Nat → Nat → Int32} {s : St} {n j : Nat} {v : Int32} (J : own_J B F P L s n) : own_J B F P L (sI s 16 j v) n :=
  own_J_fr J fun c i h => by rw [gI_sI, if_neg (by omega)]
/-- waitBuffer -/
theorem own_35 (B F P : Nat) (L : Nat → Nat → Int32) (s : St) (n : Nat) (p k : Int32) (J : own_J B F P L s n) (hk : 0 ≤ k.toInt ∧ k.toInt < F) (Q : St → Prop) (h : ∀ t m, own_J B F P L t m → own_T s t → gI t 7 (ix k) = 0 → Q t) : calV PP 35 16 [.ref 0, .int p, .int k] s Q := by
  have xk := ix_int hk.1
  obtain ⟨c14, c15, c16, B8, B32, F2, F8, P1, P4⟩ := J.1
  have kb : inb 8 k := ⟨hk.1, by show _ < (8 : Int); omega⟩
  have nF : n ≤ F := by rw [J.2.2.1]; exact own_cb_le s F
  apply c35_in
  apply c22_in
  refine ⟨fun q => absurd q (by rw [i32_lt]; simp; omega), fun _ => ⟨fun _ => ⟨fun q => absurd q (by decide), fun _ => ?_⟩, fun q => absurd (by rw [i32_lt, c15]; exact hk.2) q⟩⟩
  intro m em
  have pb : m ≠ 0 → inb 4 p := by
    intro hm
    rw [em] at hm
    by_cases a : p < 0
    · rw [if_pos a] at hm; exact absurd rfl hm
    · rw [if_neg a] at hm
      by_cases b : p < gI s 0 16
      · rw [i32_lt] at a b; simp at a; rw [c16] at b; exact ⟨a, by show _ < (4 : Int); omega⟩
      · rw [if_neg b] at hm; exact absurd rfl hm
  have out : ∀ u n', own_J B F P L u n' → own_T s u → gI u 7 (ix k) = 0 → wpcV PP 35 cm35 16 85 [some (.ref 0), some (.int p), none, some (.int m), none] [] u Q := by
    intro u n' Ju Tu u7
    refine c35_85 _ _ _ _ ⟨fun _ => h u n' Ju Tu u7, fun q => ⟨pb q, h _ n' (own_J_16 Ju) (own_T_tr Tu own_T_16) ?_⟩⟩
    rw [gI_sI, if_neg (by omega)]; exact u7
  have loop : ∀ (n' : Nat) (i : Int32) (u : St), 0 ≤ i.toInt → i.toInt + n' < 64 → own_J B F P L u n' → own_T s u → wpcV PP 35 cm35 16 50 [some (.ref 0), some (.int p), some (.int k), some (.int m), some (.int i)] [] u Q := by
    intro n'
    induction n' with
    | zero =>
      intro i u i0 i1 Ju Tu
      have u7 : gI u 7 (ix k) = 0 := Classical.byContradiction fun q => by
        have := own_cb_pos (s := u) (F := F) (k := ix k) (by omega) q
        have := Ju.2.2.1; omega
      exact c35_50 _ _ _ _ _ _ ⟨fun _ => ⟨kb, fun _ => out u 0 Ju Tu u7, fun q => absurd u7 q⟩, fun q => absurd (by rw [i32_lt]; simp; omega) q⟩
    | succ n' ih =>
      intro i u i0 i1 Ju Tu
      have e : (i + 1).toInt = i.toInt + 1 := by rw [i32_add] <;> simp <;> omega
      refine c35_50 _ _ _ _ _ _ ⟨fun _ => ⟨kb, fun a => out u _ Ju Tu a, fun a => ?_⟩, fun q => absurd (by rw [i32_lt]; simp; omega) q⟩
      refine own_40 B F P L u _ Ju _ (fun q => absurd q (by omega)) fun t l _ _ Jt St a1 a2 a3 a4 a5 => ⟨fun q => absurd q (by decide), fun _ => ?_⟩
      exact ih (i + 1) t (by omega) (by omega) Jt (own_T_tr Tu (own_40T St a1 a2 a3 a4 a5))
  have go : ∀ u, own_J B F P L u n → own_T s u → wpcV PP 35 cm35 16 47 [some (.ref 0), some (.int p), some (.int k), some (.int m), none] [] u Q := fun u Ju Tu => c35_47 _ _ _ _ _ (loop n 0 u (by decide) (by show (0 : Int) + _ < _; omega) Ju Tu)
  exact ⟨fun _ => go s J (own_T_rfl s), fun hm => ⟨kb, fun _ => go s J (own_T_rfl s), fun _ => ⟨pb hm, go _ (own_J_16 J) own_T_16⟩⟩⟩
/-- findBuf -/
theorem own_31 (F : Nat) (s : St) (b : Int32) (hF : (gI s 0 15).toInt = F) (h8 : F ≤ 8) (Q : Int32 → St → Prop) (h1 : ∀ k : Int32, 0 ≤ k.toInt → k.toInt < F → gI s 4 (ix k) = b → Q k s) (h2 : (∀ k, k < F → gI s 4 k ≠ b) → Q (-1) s) : calI PP 31 16 [.ref 0, .int b] s Q := by
  apply c31_in
  refine loop_up (F := fun i => (∀ k, k < ix i → gI s 4 k ≠ b) → wpcI PP 31 cm31 16 2 [some (.ref 0), some (.int b), some (.int i)] [] s Q) F (by omega) (fun i i0 i1 e ih hk => ?_) (fun i hi hk => ?_) 0 (by decide) (by simp) (fun k hk => absurd hk (by simp [ix]))
  · have xi := ix_int i0
    have xj := ix_int (i := i + 1) (by omega)
    refine c31_2 _ _ _ _ ⟨fun _ => ⟨⟨i0, by show _ < (8 : Int); omega⟩, fun a => h1 i i0 i1 a, fun a => ih fun k hk' => ?_⟩, fun q => absurd (by rw [i32_lt, hF]; exact i1) q⟩
    by_cases w : k = ix i
    · rw [w]; exact a
    · exact hk k (by omega)
  · have xi := ix_int (i := i) (by omega)
    exact c31_2 _ _ _ _ ⟨fun q => absurd q (by rw [i32_lt, hF]; omega), fun _ => h2 fun k hk' => hk k (by omega)⟩
/-- lruFree -/
theorem own_34 (F : Nat) (s : St) (hF : (gI s 0 15).toInt = F) (h8 : F ≤ 8) (Q : Int32 → St → Prop) (h1 : ∀ k : Int32, 0 ≤ k.toInt → k.toInt < F → gI s 7 (ix k) = 0 → gI s 8 (ix k) = 0 → Q k s) (h2 : (∀ k, k < F → gI s 7 k ≠ 0 ∨ gI s 8 k ≠ 0) → Q (-1) s) : calI PP 34 16 [.ref 0] s Q := by
  apply c34_in
  refine loop_up (F := fun i => ∀ x : Int32, (x = -1 ∧ (∀ k, k < ix i → gI s 7 k ≠ 0 ∨ gI s 8 k ≠ 0)) ∨ ((0 ≤ x.toInt ∧ x.toInt < i.toInt) ∧ gI s 7 (ix x) = 0 ∧ gI s 8 (ix x) = 0) → wpcI PP 34 cm34 16 4 [some (.ref 0), some (.int x), some (.int i)] [] s Q) F (by omega) (fun i i0 i1 e ih x hx => ?_) (fun i hi x hx => ?_) 0 (by decide) (by simp) (-1) (Or.inl ⟨rfl, fun k hk => absurd hk (by simp [ix])⟩)
  · have xi := ix_int i0
    have xj := ix_int (i := i + 1) (by omega)
    have ib : inb 8 i := ⟨i0, by show _ < (8 : Int); omega⟩
    have skip : (gI s 7 (ix i) ≠ 0 ∨ gI s 8 (ix i) ≠ 0) → wpcI PP 34 cm34 16 51 [some (.ref 0), some (.int x), some (.int i)] [] s Q := by
      intro hn
      refine c34_51 _ _ _ _ (ih x (hx.imp (fun q => ⟨q.1, fun k hk => ?_⟩) (fun q => ⟨by omega, q.2⟩)))
      by_cases w : k = ix i
      · rw [w]; exact hn
      · exact q.2 k (by omega)
    refine c34_4 _ _ _ _ ⟨fun _ => ⟨ib, fun a => ⟨ib, fun b => ⟨fun _ => c34_51 _ _ _ _ (ih i (Or.inr ⟨by omega, a, b⟩)), fun c => ?_⟩, fun b => skip (Or.inr b)⟩, fun a => skip (Or.inl a)⟩, fun q => absurd (by rw [i32_lt, hF]; exact i1) q⟩
    rcases hx with ⟨q, _⟩ | ⟨q, q7, q8⟩
    · rw [q] at c; exact absurd (by decide) c
    · refine ⟨ib, ⟨q.1, by show _ < (8 : Int); omega⟩, fun m em => c34_51 _ _ _ _ (ih m (Or.inr ?_))⟩
      rw [em]
      split
      · exact ⟨by omega, a, b⟩
      · exact ⟨by omega, q7, q8⟩
  · have xi := ix_int (i := i) (by omega)
    refine c34_4 _ _ _ _ ⟨fun q => absurd q (by rw [i32_lt, hF]; omega), fun _ => ?_⟩
    rcases hx with ⟨q, hq⟩ | ⟨q, q7, q8⟩
    · rw [q]; exact h2 fun k hk => hq k (by omega)
    · exact h1 x q.1 (by omega) q7 q8
/-- enqueue, and the buffer busy -/
theorem own_36 (B F P : Nat) (L : Nat → Nat → Int32) (s : St) (n : Nat) (k b w : Int32) (J : own_J B F P L s n) (hk : 0 ≤ k.toInt ∧ k.toInt < F) (hb : 0 ≤ b.toInt ∧ b.toInt < B) (e4 : gI s 4 (ix k) = b) (e7 : gI s 7 (ix k) = 0) (hw : (w = 0 ∧ gI s 5 (ix k) = 0) ∨ (w = 1 ∧ gI s 5 (ix k) ≠ 0)) (Q : Int32 → St → Prop)
    (h : ∀ t, own_J B F P L (sI t 7 (ix k) 1) (n + 1) → (∀ c j, c ≠ 10 → c ≠ 11 → c ≠ 12 → (c = 0 → j ≠ 30) → gI t c j = gI s c j) → Q 1 t) : calI PP 36 16 [.ref 0, .int k, .int b, .int w] s Q := by
  obtain ⟨⟨c14, c15, c16, cr⟩, hn, hc, hq, hd, ⟨b1, b2, b3⟩, hA, hN⟩ := J
  have xk := ix_int hk.1
  have xb := ix_int hb.1
  have nF : n ≤ F := by rw [hc]; exact own_cb_le s F
  have xn : ix (gI s 0 30) = n := by have := ix_int (i := gI s 0 30) (by omega); omega
  have nb : inb 16 (gI s 0 30) := ⟨by omega, by show _ < (16 : Int); omega⟩
  apply c36_in
  refine ⟨fun _ => ⟨nb, nb, nb, h _ ?_ (fun c j a b d f => ?_)⟩, fun q => absurd (by rw [i32_lt, hn]; simp; omega) q⟩
  rotate_left
  · rw [gI_sI, if_neg (fun q => f q.1 q.2), gI_sI, if_neg (fun q => d q.1), gI_sI, if_neg (fun q => b q.1), gI_sI, if_neg (fun q => a q.1)]
  rw [xn]
  have ww : w &&& 1 = w := by rcases hw with ⟨q, _⟩ | ⟨q, _⟩ <;> rw [q] <;> decide
  rw [ww]
  have en : (gI s 0 30 + 1).toInt = n + 1 := by rw [i32_add] <;> rw [hn] <;> simp <;> omega
  generalize hT : sI (sI (sI (sI (sI s 10 n k) 11 n b) 12 n w) 0 30 (gI s 0 30 + 1)) 7 (ix k) 1 = T
  have tc : ∀ c j, c ≠ 7 → c ≠ 10 → c ≠ 11 → c ≠ 12 → (c = 0 → j ≠ 30) → gI T c j = gI s c j := fun c j a b d e f => by
    subst hT; rw [gI_sI, if_neg (by omega), gI_sI, if_neg (fun q => f q.1 q.2), gI_sI, if_neg (by omega), gI_sI, if_neg (by omega), gI_sI, if_neg (by omega)]
  have t30 : (gI T 0 30).toInt = n + 1 := by subst hT; rw [gI_sI, if_neg (by omega), gI_sI, if_pos ⟨rfl, rfl⟩, en]
  have t7 : ∀ l, l ≠ ix k → gI T 7 l = gI s 7 l := fun l hl => by subst hT; rw [gI_sI, if_neg (by omega), gI_sI, if_neg (by omega), gI_sI, if_neg (by omega), gI_sI, if_neg (by omega), gI_sI, if_neg (by omega)]
  have t7k : gI T 7 (ix k) = 1 := by subst hT; rw [gI_sI, if_pos ⟨rfl, rfl⟩]
  have tq : ∀ i, i < n → gI T 10 i = gI s 10 i ∧ gI T 11 i = gI s 11 i ∧ gI T 12 i = gI s 12 i := fun i hi => by
    subst hT
    refine ⟨?_, ?_, ?_⟩ <;> rw [gI_sI, if_neg (by omega), gI_sI, if_neg (by omega), gI_sI, if_neg (by omega), gI_sI, if_neg (by omega), gI_sI, if_neg (by omega)]
  have tn : gI T 10 n = k ∧ gI T 11 n = b ∧ gI T 12 n = w := by subst hT; simp [gI_sI]
  clear hT
  have h1 : ∀ j, gI T 1 j = gI s 1 j := fun j => tc 1 j (by decide) (by decide) (by decide) (by decide) (by omega)
  have h2 : ∀ j, gI T 2 j = gI s 2 j := fun j => tc 2 j (by decide) (by decide) (by decide) (by decide) (by omega)
  have h3 : ∀ j, gI T 3 j = gI s 3 j := fun j => tc 3 j (by decide) (by decide) (by decide) (by decide) (by omega)
  have h4 : ∀ j, gI T 4 j = gI s 4 j := fun j => tc 4 j (by decide) (by decide) (by decide) (by decide) (by omega)
  have h5 : ∀ j, gI T 5 j = gI s 5 j := fun j => tc 5 j (by decide) (by decide) (by decide) (by decide) (by omega)
  have h6 : ∀ j, gI T 6 j = gI s 6 j := fun j => tc 6 j (by decide) (by decide) (by decide) (by decide) (by omega)
  refine ⟨⟨by rw [tc 0 14 (by decide) (by decide) (by decide) (by decide) (by decide), c14], by rw [tc 0 15 (by decide) (by decide) (by decide) (by decide) (by decide), c15], by rw [tc 0 16 (by decide) (by decide) (by decide) (by decide) (by decide), c16], cr⟩, by rw [t30]; simp, ?_, fun i hi => ?_, fun i j hi hj e => ?_, ⟨fun l hl => ?_, fun l m hl hm e e0 => ?_, fun l hl k0 kv kd w hw => ?_⟩, fun b b0 bB w hw => ⟨fun l hl e v => ?_, fun ha => ?_⟩, fun b bB kn w hw => ?_⟩
  · have := own_cb_set (s := s) (t := T) (F := F) (k := ix k) (by omega) t7
    rw [if_pos e7, if_neg (by rw [t7k]; decide)] at this
    omega
  · by_cases z : i = n
    · subst z
      unfold own_q1
      rw [tn.1, tn.2.1, tn.2.2, h4, h5, t7k]
      exact ⟨hk, e4.symm, hb, by decide, hw⟩
    · obtain ⟨p1, p2, p3, p4, p5⟩ := hq i (by omega)
      obtain ⟨q1, q2, q3⟩ := tq i (by omega)
      have nk : ix (gI s 10 i) ≠ ix k := fun q => p4 (by rw [q]; exact e7)
      unfold own_q1
      rw [q1, q2, q3, h4, h5, t7 _ nk]
      exact ⟨p1, p2, p3, p4, p5⟩
  · have new : ∀ i, i < n → gI T 10 i ≠ k := fun i hi q => by
      obtain ⟨p1, p2, p3, p4, p5⟩ := hq i hi
      rw [(tq i hi).1] at q
      rw [q] at p4
      exact p4 e7
    by_cases z : i = n
    · by_cases z' : j = n
      · omega
      · rw [z, tn.1] at e; exact absurd e.symm (new j (by omega))
    · by_cases z' : j = n
      · rw [z', tn.1] at e; exact absurd e (new i (by omega))
      · rw [(tq i (by omega)).1, (tq j (by omega)).1] at e
        exact hd i j (by omega) (by omega) e
  · rw [h4]; exact b1 l hl
  · rw [h4, h4] at e; rw [h4] at e0; exact b2 l m hl hm e e0
  · rw [h4] at k0; rw [h5] at kv; rw [h6] at kd; rw [h3, h1, h4]; exact b3 l hl k0 kv kd w hw
  · rw [h4] at e; rw [h5] at v; rw [h3]; exact (hA b b0 bB w hw).1 l hl e v
  · rw [h1]; exact (hA b b0 bB w hw).2 fun k hk e => by rw [← h5]; exact ha k hk (by rw [h4]; exact e)
  · rw [h2] at kn; rw [h1]; exact hN b bB kn w hw
/-- allocate -/
theorem own_33 (B F P : Nat) (L : Nat → Nat → Int32) (s : St) (n : Nat) (J : own_J B F P L s n) (hf : ∃ k, k < F ∧ gI s 8 k = 0) (hh : ∀ k, k < F → gI s 8 k ≠ 0 → gI s 7 k = 0) (Q : Int32 → St → Prop)
    (h : ∀ t m (k : Int32), own_J B F P L t m → own_T s t → 0 ≤ k.toInt → k.toInt < F → gI t 7 (ix k) = 0 → gI t 8 (ix k) = 0 → (gI t 6 (ix k) = 0 ∨ gI t 5 (ix k) = 0 ∨ (gI t 4 (ix k)).toInt < 0) → Q k t) : calI PP 33 16 [.ref 0] s Q := by
  obtain ⟨c14, c15, c16, B8, B32, F2, F8, P1, P4⟩ := J.1
  apply c33_in
  have one : ∀ (n' : Nat) (i : Int32) (u : St), 0 ≤ i.toInt → i.toInt < 60 → own_J B F P L u n' → own_T s u → (∀ k, k < F → gI u 8 k ≠ 0 → gI u 7 k = 0) → (∀ t, own_J B F P L t (n' + 1) → own_T s t → (∀ k, k < F → gI t 8 k ≠ 0 → gI t 7 k = 0) → wpcI PP 33 cm33 16 2 [some (.ref 0), some (.int (i + 1)), none, none] [] t Q) → wpcI PP 33 cm33 16 2 [some (.ref 0), some (.int i), none, none] [] u Q := by
    intro n' i u i0 i1 Ju Tu hu next
    have e : (i + 1).toInt = i.toInt + 1 := by rw [i32_add] <;> simp <;> omega
    have u15 : (gI u 0 15).toInt = F := Ju.1.2.1
    refine c33_2 _ _ _ ⟨fun _ => ?_, fun q => absurd (by rw [i32_lt]; simp; omega) q⟩
    refine own_34 F u u15 F8 _ (fun k k0 k1 k7 k8 => ?_) (fun hall => ?_)
    · have xk := ix_int k0
      have kb : inb 8 k := ⟨k0, by show _ < (8 : Int); omega⟩
      refine ⟨fun q => absurd q (by rw [i32_lt]; simp; omega), fun _ => ⟨kb, fun a => h u n' k Ju Tu k0 k1 k7 k8 (Or.inl a), fun a => ⟨kb, fun b => h u n' k Ju Tu k0 k1 k7 k8 (Or.inr (Or.inl b)), fun b => ⟨kb, fun c => h u n' k Ju Tu k0 k1 k7 k8 (Or.inr (Or.inr (by rw [i32_lt] at c; simpa using c))), fun c => ⟨kb, ?_⟩⟩⟩⟩⟩
      rw [i32_lt] at c; simp at c
      have rng := (Ju.2.2.2.2.2.1.1 (ix k) (by omega)).resolve_left (by omega)
      refine own_36 B F P L u n' k _ 1 Ju ⟨k0, k1⟩ rng rfl k7 (Or.inr ⟨rfl, b⟩) _ fun t Jt tc => ⟨fun q => absurd q (by decide), fun _ => ⟨kb, c33_84 _ _ _ (next _ Jt (own_T_tr Tu ⟨fun c j hc => ?_, fun l => ?_⟩) fun l hl l8 => ?_)⟩⟩
      · rw [gI_sI, if_neg (by omega), tc c j (by omega) (by omega) (by omega) (by omega)]
      · have e5 : gI (sI t 7 (ix k) 1) 5 l = gI u 5 l := by rw [gI_sI, if_neg (by omega), tc 5 l (by decide) (by decide) (by decide) (by omega)]
        have e6 : gI (sI t 7 (ix k) 1) 6 l = gI u 6 l := by rw [gI_sI, if_neg (by omega), tc 6 l (by decide) (by decide) (by decide) (by omega)]
        by_cases z : l = ix k
        · subst z
          have e7 : gI (sI t 7 (ix k) 1) 7 (ix k) = 1 := by rw [gI_sI, if_pos ⟨rfl, rfl⟩]
          rw [e5, e6, e7]
          exact ⟨id, fun _ => Or.inl (by decide), fun p => absurd k7 p⟩
        · have e7 : gI (sI t 7 (ix k) 1) 7 l = gI u 7 l := by rw [gI_sI, if_neg (fun q => z q.2), tc 7 l (by decide) (by decide) (by decide) (by omega)]
          rw [e5, e6, e7]
          exact ⟨id, id, fun p q => absurd q p⟩
      · rw [gI_sI, if_neg (by omega), tc 8 l (by decide) (by decide) (by decide) (by omega)] at l8
        have z : l ≠ ix k := fun z => l8 (by rw [z]; exact k8)
        rw [gI_sI, if_neg (fun q => z q.2), tc 7 l (by decide) (by decide) (by decide) (by omega)]
        exact hu l hl l8
    · refine ⟨fun _ => ?_, fun q => absurd (by decide) q⟩
      refine own_40 B F P L u n' Ju _ (fun z => ?_) fun t k _ kF Jt St a1 a2 a3 a4 a5 => ⟨fun q => absurd q (by decide), fun _ => c33_84 _ _ _ ?_⟩
      · exfalso
        obtain ⟨k, kF, k8⟩ := hf
        have u8 : gI u 8 k = 0 := by rw [Tu.1 8 k (by omega), k8]
        have b7 : gI u 7 k ≠ 0 := (hall k kF).resolve_right (fun q => q u8)
        have := own_cb_pos (s := u) kF b7
        have := Ju.2.2.1
        omega
      · have t8k : gI t 8 k = 0 := by
          rw [St 8 k (by omega)]
          exact Classical.byContradiction fun q => a1 (hu k kF q)
        refine c33_2 _ _ _ ⟨fun _ => ?_, fun q => absurd (by rw [i32_lt, e]; simp; omega) q⟩
        refine own_34 F t Jt.1.2.1 F8 _ (fun l l0 l1 l7 l8 => ?_) (fun hall' => ?_)
        · have xl := ix_int l0
          have lk : ix l = k := Classical.byContradiction fun z => by
            have q7 : gI u 7 (ix l) = 0 := by rw [← (a5 (ix l) z).2.2]; exact l7
            have q8 : gI u 8 (ix l) = 0 := by rw [← St 8 _ (by omega)]; exact l8
            exact (hall (ix l) (by omega)).elim (fun q => q q7) (fun q => q q8)
          have lb : inb 8 l := ⟨l0, by show _ < (8 : Int); omega⟩
          have l6 : gI t 6 (ix l) = 0 := by rw [lk]; exact a3
          refine ⟨fun q => absurd q (by rw [i32_lt]; simp; omega), fun _ => ⟨lb, fun a => h t _ l Jt (own_T_tr Tu (own_40T St a1 a2 a3 a4 a5)) l0 l1 l7 l8 (Or.inl a), fun a => absurd l6 a⟩⟩
        · exact absurd (hall' k kF) (by rw [a2, t8k]; simp)
  have key : ∀ (d n' : Nat) (i : Int32) (u : St), n' + d = F → 0 ≤ i.toInt → i.toInt + d < 60 → own_J B F P L u n' → own_T s u → (∀ k, k < F → gI u 8 k ≠ 0 → gI u 7 k = 0) → wpcI PP 33 cm33 16 2 [some (.ref 0), some (.int i), none, none] [] u Q := by
    intro d
    induction d with
    | zero =>
      intro n' i u hd i0 i1 Ju Tu hu
      refine one n' i u i0 (by omega) Ju Tu hu fun t Jt _ _ => ?_
      have := Jt.2.2.1
      have := own_cb_le t F
      omega
    | succ d ih =>
      intro n' i u hd i0 i1 Ju Tu hu
      have e : (i + 1).toInt = i.toInt + 1 := by rw [i32_add] <;> simp <;> omega
      exact one n' i u i0 (by omega) Ju Tu hu fun t Jt Tt ht => ih (n' + 1) (i + 1) t (by omega) (by omega) (by omega) Jt Tt ht
  have nF : n ≤ F := by rw [J.2.2.1]; exact own_cb_le s F
  exact key (F - n) n 0 s (by omega) (by decide) (by show (0 : Int) + _ < _; omega) J (own_T_rfl s) hh
/-- a free clean buffer takes a block that no buffer has -/
theorem own_take (B F P : Nat) (L : Nat → Nat → Int32) (t : St) (m : Nat) (k b : Int32) (J : own_J B F P L t m) (hk : 0 ≤ k.toInt ∧ k.toInt < F) (hb : 0 ≤ b.toInt ∧ b.toInt < B) (nb : ∀ l, l < F → gI t 4 l ≠ b) (k7 : gI t 7 (ix k) = 0) (hc : gI t 6 (ix k) = 0 ∨ gI t 5 (ix k) = 0 ∨ (gI t 4 (ix k)).toInt < 0) : own_J B F P L (sI (sI (sI t 4 (ix k) b) 5 (ix k) 0) 6 (ix k) 0) m := by
  obtain ⟨⟨c14, c15, c16, cr⟩, hn, hc', hq, hd, ⟨b1, b2, b3⟩, hA, hN⟩ := J
  have xk := ix_int hk.1
  have xb := ix_int hb.1
  generalize hT : sI (sI (sI t 4 (ix k) b) 5 (ix k) 0) 6 (ix k) 0 = T
  have tc : ∀ c j, ((c ≠ 4 ∧ c ≠ 5 ∧ c ≠ 6) ∨ j ≠ ix k) → gI T c j = gI t c j := fun c j a => by
    subst hT; rw [gI_sI, if_neg (by omega), gI_sI, if_neg (by omega), gI_sI, if_neg (by omega)]
  have T4 : gI T 4 (ix k) = b := by subst hT; simp [gI_sI]
  have T5 : gI T 5 (ix k) = 0 := by subst hT; simp [gI_sI]
  clear hT
  have h1 : ∀ j, gI T 1 j = gI t 1 j := fun j => tc 1 j (by omega)
  have h3 : ∀ j, gI T 3 j = gI t 3 j := fun j => tc 3 j (by omega)
  have h7 : ∀ j, gI T 7 j = gI t 7 j := fun j => tc 7 j (by omega)
  refine ⟨⟨by rw [tc 0 14 (by omega), c14], by rw [tc 0 15 (by omega), c15], by rw [tc 0 16 (by omega), c16], cr⟩, by rw [tc 0 30 (by omega), hn], by rw [hc']; exact (own_cb_eq (fun j _ => h7 j)).symm, fun i hi => ?_, fun i j hi hj e => ?_, ⟨fun l hl => ?_, fun l m hl hm e e0 => ?_, fun l hl l0 lv ld w hw => ?_⟩, fun b' b0 bB w hw => ⟨fun l hl e v => ?_, fun ha => ?_⟩, fun b' bB kn w hw => ?_⟩
  · obtain ⟨p1, p2, p3, p4, p5⟩ := hq i hi
    have nk : ix (gI t 10 i) ≠ ix k := fun q => p4 (by rw [q]; exact k7)
    unfold own_q1
    rw [tc 10 i (by omega), tc 11 i (by omega), tc 12 i (by omega), tc 4 _ (Or.inr nk), tc 5 _ (Or.inr nk), h7]
    exact ⟨p1, p2, p3, p4, p5⟩
  · rw [tc 10 i (by omega), tc 10 j (by omega)] at e; exact hd i j hi hj e
  · by_cases z : l = ix k
    · rw [z, T4]; exact Or.inr hb
    · rw [tc 4 l (Or.inr z)]; exact b1 l hl
  · by_cases z : l = ix k
    · by_cases z' : m = ix k
      · omega
      · rw [z, T4, tc 4 m (Or.inr z')] at e; exact absurd e.symm (nb m hm)
    · by_cases z' : m = ix k
      · rw [z', T4, tc 4 l (Or.inr z)] at e; exact absurd e (nb l hl)
      · rw [tc 4 l (Or.inr z), tc 4 m (Or.inr z')] at e
        rw [tc 4 l (Or.inr z)] at e0
        exact b2 l m hl hm e e0
  · by_cases z : l = ix k
    · rw [z, T5] at lv; exact absurd rfl lv
    · rw [tc 4 l (Or.inr z)] at l0 ⊢
      rw [tc 5 l (Or.inr z)] at lv
      rw [tc 6 l (Or.inr z)] at ld
      rw [h3, h1]; exact b3 l hl l0 lv ld w hw
  · by_cases z : l = ix k
    · rw [z, T5] at v; exact absurd rfl v
    · rw [tc 4 l (Or.inr z)] at e
      rw [tc 5 l (Or.inr z)] at v
      rw [h3]; exact (hA b' b0 bB w hw).1 l hl e v
  · rw [h1]
    by_cases z : gI t 4 (ix k) = b'
    · by_cases v : gI t 5 (ix k) = 0
      · refine (hA b' b0 bB w hw).2 fun l hl e => ?_
        rw [b2 l (ix k) hl (by omega) (by rw [e, z]) (by rw [e]; exact b0)]; exact v
      · have d : gI t 6 (ix k) = 0 := by
          rcases hc with q | q | q
          · exact q
          · exact absurd q v
          · rw [z] at q; omega
        have a := (hA b' b0 bB w hw).1 (ix k) (by omega) z v
        have c := b3 (ix k) (by omega) (by rw [z]; exact b0) v d w hw
        rw [z] at c
        rw [← a, c]
    · refine (hA b' b0 bB w hw).2 fun l hl e => ?_
      have zl : l ≠ ix k := fun q => z (by rw [← q]; exact e)
      have := ha l hl (by rw [tc 4 l (Or.inr zl)]; exact e)
      rw [tc 5 l (Or.inr zl)] at this; exact this
  · rw [tc 2 _ (by omega)] at kn; rw [h1]; exact hN b' bB kn w hw
theorem own_22 (F : Nat) (s : St) (k : Int32) (hF : (gI s 0 15).toInt = F) (hk : 0 ≤ k.toInt ∧ k.toInt < F) (Q : Int32 → St → Prop) (h : Q 1 s) : calI PP 22 16 [.ref 0, .int k] s Q := by
  apply c22_in
  exact ⟨fun q => absurd q (by rw [i32_lt]; simp; omega), fun _ => ⟨fun _ => h, fun q => absurd (by rw [i32_lt, hF]; exact hk.2) q⟩⟩
/-- getBlock -/
theorem own_32 (B F P : Nat) (L : Nat → Nat → Int32) (s : St) (n : Nat) (p b r : Int32) (J : own_J B F P L s n) (hf : ∃ k, k < F ∧ gI s 8 k = 0) (hh : ∀ k, k < F → gI s 8 k ≠ 0 → gI s 7 k = 0 ∧ gI s 4 k ≠ b) (hv : ∀ k, k < F → 0 ≤ (gI s 4 k).toInt → gI s 5 k ≠ 0) (hb : 0 ≤ b.toInt ∧ b.toInt < B) (Q : Int32 → St → Prop)
    (h : ∀ t m (k : Int32), own_J B F P L t m → (0 ≤ k.toInt ∧ k.toInt < F) → gI t 4 (ix k) = b → gI t 7 (ix k) = 0 → gI s 8 (ix k) = 0 → (∀ l, gI t 8 l = if l = ix k then 1 else gI s 8 l) → (∀ l, l ≠ ix k → gI t 4 l = gI s 4 l) → (∀ l, l < F → l ≠ ix k → 0 ≤ (gI t 4 l).toInt → gI t 5 l ≠ 0) → (r ≠ 0 → gI t 5 (ix k) ≠ 0) → (∀ c j, (c = 2 ∨ c = 13 ∨ c = 14 ∨ c = 15) → gI t c j = gI s c j) → Q k t) : calI PP 32 16 [.ref 0, .int p, .int b, .int r] s Q := by
  obtain ⟨c14, c15, c16, B8, B32, F2, F8, P1, P4⟩ := J.1
  have xb := ix_int hb.1
  -- from the buffer that has the block
  have fin : ∀ t m (k : Int32), own_J B F P L t m → (0 ≤ k.toInt ∧ k.toInt < F) → gI t 4 (ix k) = b → gI t 7 (ix k) = 0 → gI s 8 (ix k) = 0 → (∀ l, gI t 8 l = gI s 8 l) → (∀ l, l ≠ ix k → gI t 4 l = gI s 4 l) → (∀ l, l < F → l ≠ ix k → 0 ≤ (gI t 4 l).toInt → gI t 5 l ≠ 0) → (∀ c j, (c = 2 ∨ c = 13 ∨ c = 14 ∨ c = 15) → gI t c j = gI s c j) → wpcI PP 32 cm32 16 59 [some (.ref 0), some (.int p), some (.int b), some (.int r), some (.int k)] [] t Q := by
    intro t m k Jt hk e4 e7 s8 t8 t4 tv tc
    have xk := ix_int hk.1
    have kb : inb 8 k := ⟨hk.1, by show _ < (8 : Int); omega⟩
    refine c32_59 _ _ _ _ _ _ ⟨kb, c30_in _ _ _ ⟨kb, ?_⟩⟩
    generalize hU : sI (sI (sI t 8 (ix k) 1) 0 26 (gI (sI t 8 (ix k) 1) 0 26 + 1)) 9 (ix k) (gI (sI t 8 (ix k) 1) 0 26 + 1) = U
    have uc : ∀ c j, c ≠ 8 → c ≠ 9 → (c = 0 → j ≠ 26) → gI U c j = gI t c j := fun c j a b d => by
      subst hU; rw [gI_sI, if_neg (by omega), gI_sI, if_neg (fun q => d q.1 q.2), gI_sI, if_neg (by omega)]
    have u8 : ∀ l, gI U 8 l = if l = ix k then 1 else gI s 8 l := fun l => by
      subst hU; rw [gI_sI, if_neg (by omega), gI_sI, if_neg (by omega), gI_sI]
      by_cases z : l = ix k
      · rw [if_pos ⟨rfl, z⟩, if_pos z]
      · rw [if_neg (fun q => z q.2), if_neg z, t8]
    clear hU
    have JU : own_J B F P L U m := own_J_fr Jt fun c j hc => uc c j (by omega) (by omega) (by omega)
    have U4 : gI U 4 (ix k) = b := by rw [uc 4 _ (by decide) (by decide) (by omega), e4]
    have U7 : gI U 7 (ix k) = 0 := by rw [uc 7 _ (by decide) (by decide) (by omega), e7]
    have U4l : ∀ l, l ≠ ix k → gI U 4 l = gI s 4 l := fun l hl => by rw [uc 4 _ (by decide) (by decide) (by omega), t4 l hl]
    have Uv : ∀ l, l < F → l ≠ ix k → 0 ≤ (gI U 4 l).toInt → gI U 5 l ≠ 0 := fun l a b c => by
      rw [uc 4 _ (by decide) (by decide) (by omega)] at c
      rw [uc 5 _ (by decide) (by decide) (by omega)]; exact tv l a b c
    have Uc : ∀ c j, (c = 2 ∨ c = 13 ∨ c = 14 ∨ c = 15) → gI U c j = gI s c j := fun c j hc => by rw [uc c j (by omega) (by omega) (by omega), tc c j hc]
    refine ⟨fun r0 => h U m k JU hk U4 U7 s8 u8 U4l Uv (fun q => absurd r0 q) Uc, fun r1 => ⟨kb, fun v0 => ?_, fun v1 => h U m k JU hk U4 U7 s8 u8 U4l Uv (fun _ => v1) Uc⟩⟩
    refine own_36 B F P L U m k b 0 JU hk hb U4 U7 (Or.inl ⟨rfl, v0⟩) _ fun V JV vc => ⟨fun q => absurd q (by decide), fun _ => ⟨kb, c32_106 _ _ _ _ ?_⟩⟩
    have w7 : gI (sI V 7 (ix k) 1) 7 (ix k) ≠ 0 := by rw [gI_sI, if_pos ⟨rfl, rfl⟩]; decide
    have wc : ∀ c j, c ≠ 7 → c ≠ 10 → c ≠ 11 → c ≠ 12 → (c = 0 → j ≠ 30) → gI (sI V 7 (ix k) 1) c j = gI U c j := fun c j a b d e f => by rw [gI_sI, if_neg (fun q => a q.1), vc c j b d e f]
    refine own_35 B F P L _ (m + 1) p k JV hk _ fun W m' JW TW W7 => h W m' k JW hk ?_ W7 s8 (fun l => ?_) (fun l hl => ?_) (fun l a b c => ?_) (fun _ => (TW.2 (ix k)).2.2 w7 W7) (fun c j hc => ?_)
    · rw [TW.1 4 _ (by omega), wc 4 _ (by decide) (by decide) (by decide) (by decide) (by omega), U4]
    · rw [TW.1 8 _ (by omega), wc 8 _ (by decide) (by decide) (by decide) (by decide) (by omega), u8]
    · rw [TW.1 4 _ (by omega), wc 4 _ (by decide) (by decide) (by decide) (by decide) (by omega), U4l l hl]
    · rw [TW.1 4 _ (by omega), wc 4 _ (by decide) (by decide) (by decide) (by decide) (by omega)] at c
      refine (TW.2 l).1 ?_
      rw [wc 5 _ (by decide) (by decide) (by decide) (by decide) (by omega)]
      exact Uv l a b c
    · rw [TW.1 c j (by omega), wc c j (by omega) (by omega) (by omega) (by omega) (by omega), Uc c j hc]
  apply c32_in
  refine own_31 F s b c15 F8 _ (fun k k0 k1 e4 => ?_) (fun nf => ?_)
  · have xk := ix_int k0
    refine ⟨fun q => absurd q (by rw [i32_lt]; simp; omega), fun _ => ?_⟩
    have s8 : gI s 8 (ix k) = 0 := Classical.byContradiction fun q => (hh (ix k) (by omega) q).2 e4
    refine own_35 B F P L s n p k J ⟨k0, k1⟩ _ fun t m Jt Tt t7 => fin t m k Jt ⟨k0, k1⟩ (by rw [Tt.1 4 _ (by omega), e4]) t7 s8 (fun l => Tt.1 8 l (by omega)) (fun l _ => Tt.1 4 l (by omega)) (fun l hl _ l0 => ?_) (fun c j hc => Tt.1 c j (by omega))
    rw [Tt.1 4 l (by omega)] at l0
    exact (Tt.2 l).1 (hv l hl l0)
  · refine ⟨fun _ => ?_, fun q => absurd (by decide) q⟩
    refine own_33 B F P L s n J hf (fun k hk q => (hh k hk q).1) _ fun t m k Jt Tt k0 k1 t7 t8 tcl => ?_
    have xk := ix_int k0
    have kb : inb 8 k := ⟨k0, by show _ < (8 : Int); omega⟩
    refine ⟨fun q => absurd q (by rw [i32_lt]; simp; omega), fun _ => ⟨kb, kb, kb, ?_⟩⟩
    have JT := own_take B F P L t m k b Jt ⟨k0, k1⟩ hb (fun l hl => by rw [Tt.1 4 l (by omega)]; exact nf l hl) t7 tcl
    have oc : ∀ c j, ((c ≠ 4 ∧ c ≠ 5 ∧ c ≠ 6) ∨ j ≠ ix k) → gI (sI (sI (sI t 4 (ix k) b) 5 (ix k) 0) 6 (ix k) 0) c j = gI t c j := fun c j a => by
      rw [gI_sI, if_neg (by omega), gI_sI, if_neg (by omega), gI_sI, if_neg (by omega)]
    refine fin _ m k JT ⟨k0, k1⟩ (by simp [gI_sI]) (by rw [oc 7 _ (by omega), t7]) (by rw [← Tt.1 8 _ (by omega), t8]) (fun l => by rw [oc 8 _ (by omega), Tt.1 8 _ (by omega)]) (fun l hl => by rw [oc 4 _ (Or.inr hl), Tt.1 4 _ (by omega)]) (fun l hl lk l0 => ?_) (fun c j hc => by rw [oc c j (by omega), Tt.1 c j (by omega)])
    rw [oc 4 _ (Or.inr lk), Tt.1 4 _ (by omega)] at l0
    rw [oc 5 _ (Or.inr lk)]
    exact (Tt.2 l).1 (hv l hl l0)
/-- new contents of a block in a buffer -/
theorem own_put (B F P : Nat) (L L' : Nat → Nat → Int32) (t u : St) (m : Nat) (k b : Int32) (J : own_J B F P L t m) (hk : 0 ≤ k.toInt ∧ k.toInt < F) (hb : 0 ≤ b.toInt ∧ b.toInt < B) (e4 : gI t 4 (ix k) = b) (e7 : gI t 7 (ix k) = 0) (hL : ∀ b', b' ≠ ix b → ∀ w, L' b' w = L b' w)
    (u3 : ∀ w, w < 4 → gI u 3 (4 * ix k + w) = L' (ix b) w) (u3' : ∀ j, j < 4 * ix k ∨ 4 * ix k + 4 ≤ j → gI u 3 j = gI t 3 j) (u5 : gI u 5 (ix k) ≠ 0) (u5' : ∀ l, l ≠ ix k → gI u 5 l = gI t 5 l) (u6 : gI u 6 (ix k) ≠ 0) (u6' : ∀ l, l ≠ ix k → gI u 6 l = gI t 6 l) (u2 : gI u 2 (ix b) = 0) (u2' : ∀ j, j ≠ ix b → gI u 2 j = gI t 2 j) (uc : ∀ c j, (c = 1 ∨ c = 4 ∨ c = 7 ∨ 10 ≤ c ∧ c ≤ 12 ∨ (c = 0 ∧ j ≠ 26 ∧ j ≠ 31)) → gI u c j = gI t c j) : own_J B F P L' u m := by
  obtain ⟨⟨c14, c15, c16, cr⟩, hn, hc', hq, hd, ⟨b1, b2, b3⟩, hA, hN⟩ := J
  have xk := ix_int hk.1
  have xb := ix_int hb.1
  have h1 : ∀ j, gI u 1 j = gI t 1 j := fun j => uc 1 j (by omega)
  have h4 : ∀ j, gI u 4 j = gI t 4 j := fun j => uc 4 j (by omega)
  have h7 : ∀ j, gI u 7 j = gI t 7 j := fun j => uc 7 j (by omega)
  have ob : ∀ l, l < F → l ≠ ix k → gI t 4 l ≠ b := fun l hl z q => z (b2 l (ix k) hl (by omega) (by rw [q, e4]) (by rw [q]; exact hb.1))
  refine ⟨⟨by rw [uc 0 14 (by omega), c14], by rw [uc 0 15 (by omega), c15], by rw [uc 0 16 (by omega), c16], cr⟩, by rw [uc 0 30 (by omega), hn], by rw [hc']; exact (own_cb_eq (fun j _ => h7 j)).symm, fun i hi => ?_, fun i j hi hj e => ?_, ⟨fun l hl => ?_, fun l m hl hm e e0 => ?_, fun l hl l0 lv ld w hw => ?_⟩, fun b' b0 bB w hw => ⟨fun l hl e v => ?_, fun ha => ?_⟩, fun b' bB kn w hw => ?_⟩
  · obtain ⟨p1, p2, p3, p4, p5⟩ := hq i hi
    have nk : ix (gI t 10 i) ≠ ix k := fun q => p4 (by rw [q]; exact e7)
    unfold own_q1
    rw [uc 10 i (by omega), uc 11 i (by omega), uc 12 i (by omega), h4, u5' _ nk, h7]
    exact ⟨p1, p2, p3, p4, p5⟩
  · rw [uc 10 i (by omega), uc 10 j (by omega)] at e; exact hd i j hi hj e
  · rw [h4]; exact b1 l hl
  · rw [h4, h4] at e; rw [h4] at e0; exact b2 l m hl hm e e0
  · by_cases z : l = ix k
    · rw [z] at ld; exact absurd ld u6
    · rw [h4] at l0 ⊢
      rw [u5' l z] at lv
      rw [u6' l z] at ld
      rw [u3' _ (by omega), h1]; exact b3 l hl l0 lv ld w hw
  · rw [h4] at e
    by_cases z : l = ix k
    · rw [z, e4] at e; subst e; rw [z]; exact u3 w hw
    · rw [u5' l z] at v
      have zb : ix b' ≠ ix b := fun q => ob l hl z (by rw [e]; exact (ix_inj b0 hb.1).mp q)
      rw [u3' _ (by omega), hL _ zb]
      exact (hA b' b0 bB w hw).1 l hl e v
  · rw [h1]
    by_cases z : b' = b
    · subst z; exact absurd (ha (ix k) (by omega) (by rw [h4, e4])) u5
    · rw [hL _ (fun q => z ((ix_inj b0 hb.1).mp q))]
      refine (hA b' b0 bB w hw).2 fun l hl e => ?_
      have zl : l ≠ ix k := fun q => z (by rw [← e, q, e4])
      have := ha l hl (by rw [h4]; exact e)
      rw [u5' l zl] at this; exact this
  · by_cases z : b' = ix b
    · rw [z] at kn; exact absurd u2 kn
    · rw [u2' _ z] at kn; rw [h1, hL _ z]; exact hN b' bB kn w hw
/-- between the calls -/
def own_O (B F P : Nat) (L : Nat → Nat → Int32) (s : St) : Prop := (∃ n, own_J B F P L s n) ∧ (∀ k, k < F → gI s 8 k = 0) ∧ (∀ k, k < F → 0 ≤ (gI s 4 k).toInt → gI s 5 k ≠ 0)
theorem own_bp (P : Nat) (s : St) (p : Int32) (hP : (gI s 0 16).toInt = P) (Q : Int32 → St → Prop) (h : Q (if 0 ≤ p.toInt ∧ p.toInt < P then 0 else 1) s) : calI PP 19 16 [.ref 0, .int p] s Q := by
  apply c19_in
  refine ⟨fun a => ?_, fun a => ⟨fun b => ?_, fun b => ?_⟩⟩
  · rw [i32_lt] at a; simp at a; rw [if_neg (by omega)] at h; exact h
  · rw [i32_lt] at a b; simp at a; rw [if_pos (by omega)] at h; exact h
  · rw [i32_lt] at a b; simp at a; rw [if_neg (by omega)] at h; exact h
theorem own_bb (B : Nat) (s : St) (p : Int32) (hB : (gI s 0 14).toInt = B) (Q : Int32 → St → Prop) (h : Q (if 0 ≤ p.toInt ∧ p.toInt < B then 0 else 1) s) : calI PP 20 16 [.ref 0, .int p] s Q := by
  apply c20_in
  refine ⟨fun a => ?_, fun a => ⟨fun b => ?_, fun b => ?_⟩⟩
  · rw [i32_lt] at a; simp at a; rw [if_neg (by omega)] at h; exact h
  · rw [i32_lt] at a b; simp at a; rw [if_pos (by omega)] at h; exact h
  · rw [i32_lt] at a b; simp at a; rw [if_neg (by omega)] at h; exact h
theorem own_bw (s : St) (p : Int32) (Q : Int32 → St → Prop) (h : Q (if 0 ≤ p.toInt ∧ p.toInt < 4 then 0 else 1) s) : calI PP 21 16 [.ref 0, .int p] s Q := by
  apply c21_in
  refine ⟨fun a => ?_, fun a => ⟨fun b => ?_, fun b => ?_⟩⟩
  · rw [i32_lt] at a; simp at a; rw [if_neg (by omega)] at h; exact h
  · rw [i32_lt] at a b; simp at a b; rw [if_pos (by omega)] at h; exact h
  · rw [i32_lt] at a b; simp at a b; rw [if_neg (by omega)] at h; exact h
def own_up (L : Nat → Nat → Int32) (b w : Nat) (v : Int32) : Nat → Nat → Int32 := fun b' w' => if b' = b ∧ w' = w then v else L b' w'
theorem own_29 (F : Nat) (s : St) (k : Int32) (hF : (gI s 0 15).toInt = F) (h8 : F ≤ 8) (hk : 0 ≤ k.toInt ∧ k.toInt < F) (Q : St → Prop) (h : Q (sI s 8 (ix k) 0)) : calV PP 29 16 [.ref 0, .int k] s Q := by
  apply c29_in
  exact own_22 F s k hF hk _ ⟨fun q => absurd q (by decide), fun _ => ⟨⟨hk.1, by show _ < (8 : Int); omega⟩, h⟩⟩
/-- write -/
theorem own_6 (B F P : Nat) (L : Nat → Nat → Int32) (s : St) (p b w v : Int32) (O : own_O B F P L s) (Q : Int32 → St → Prop)
    (hp : ¬ (0 ≤ p.toInt ∧ p.toInt < P) → Q (-2) s) (hb : (0 ≤ p.toInt ∧ p.toInt < P) → ¬ (0 ≤ b.toInt ∧ b.toInt < B) → Q (-3) s) (hw : (0 ≤ p.toInt ∧ p.toInt < P) → (0 ≤ b.toInt ∧ b.toInt < B) → ¬ (0 ≤ w.toInt ∧ w.toInt < 4) → Q (-4) s)
    (h : (0 ≤ p.toInt ∧ p.toInt < P) → (0 ≤ b.toInt ∧ b.toInt < B) → (0 ≤ w.toInt ∧ w.toInt < 4) → ∀ t, own_O B F P (own_up L (ix b) (ix w) (v &&& 65535)) t → (∀ j, gI t 2 j = if j = ix b then 0 else gI s 2 j) → (∀ j, gI t 15 j = if j = ix p then gI s 15 (ix p) + 1 else gI s 15 j) → (∀ c j, c = 13 ∨ c = 14 → gI t c j = gI s c j) → Q 0 t) : calI PP 6 16 [.ref 0, .int p, .int b, .int w, .int v] s Q := by
  obtain ⟨⟨n, J⟩, o8, ov⟩ := O
  obtain ⟨c14, c15, c16, B8, B32, F2, F8, P1, P4⟩ := J.1
  apply c6_in
  refine own_bp P s p c16 _ ?_
  by_cases yp : 0 ≤ p.toInt ∧ p.toInt < P
  rotate_left
  · rw [if_neg yp]; exact ⟨fun q => absurd q (by decide), fun _ => hp yp⟩
  rw [if_pos yp]
  refine ⟨fun _ => own_bb B s b c14 _ ?_, fun q => absurd rfl q⟩
  by_cases yb : 0 ≤ b.toInt ∧ b.toInt < B
  rotate_left
  · rw [if_neg yb]; exact ⟨fun q => absurd q (by decide), fun _ => hb yp yb⟩
  rw [if_pos yb]
  refine ⟨fun _ => own_bw s w _ ?_, fun q => absurd rfl q⟩
  by_cases yw : 0 ≤ w.toInt ∧ w.toInt < 4
  rotate_left
  · rw [if_neg yw]; exact ⟨fun q => absurd q (by decide), fun _ => hw yp yb yw⟩
  rw [if_pos yw]
  refine ⟨fun _ => ?_, fun q => absurd rfl q⟩
  refine own_32 B F P L s n p b 1 J ⟨0, by omega, o8 0 (by omega)⟩ (fun k hk q => absurd (o8 k hk) q) ov yb _ fun t m k Jt hk e4 e7 s8 t8 t4 tv tr tc => ?_
  have t15 : (gI t 0 15).toInt = F := Jt.1.2.1
  have xk := ix_int hk.1
  have xb := ix_int yb.1
  have xw := ix_int yw.1
  have xp := ix_int yp.1
  obtain ⟨f1, f2⟩ := own_x4 (k := k) (w := w) (N := 32) (by omega) (by decide) yw
  have kb : inb 8 k := ⟨hk.1, by show _ < (8 : Int); omega⟩
  apply c25_in
  refine own_22 F t k t15 hk _ ⟨fun q => absurd q (by decide), fun _ => ⟨⟨by omega, by show _ < (32 : Int); omega⟩, ?_⟩⟩
  rw [f2]
  apply c27_in
  refine own_22 F _ k (by rw [gI_sI, if_neg (by omega), t15]) hk _ ⟨fun q => absurd q (by decide), fun _ => ⟨kb, ?_⟩⟩
  refine own_29 F _ k (by rw [gI_sI, if_neg (by omega), gI_sI, if_neg (by omega), t15]) F8 hk _ ?_
  have pb : inb 4 p := ⟨yp.1, by show _ < (4 : Int); omega⟩
  refine ⟨⟨yb.1, by show _ < (32 : Int); omega⟩, pb, pb, ?_⟩
  generalize hU : sI (sI (sI t 3 (4 * ix k + ix w) (v &&& 65535)) 6 (ix k) 1) 8 (ix k) 0 = U
  have U15 : gI U 15 (ix p) = gI s 15 (ix p) := by subst hU; rw [gI_sI, if_neg (by omega), gI_sI, if_neg (by omega), gI_sI, if_neg (by omega), tc 15 _ (by omega)]
  rw [U15]
  generalize hV : sI (sI U 2 (ix b) 0) 15 (ix p) (gI s 15 (ix p) + 1) = V
  have vc : ∀ c j, c ≠ 2 → c ≠ 3 → c ≠ 6 → c ≠ 8 → c ≠ 15 → gI V c j = gI t c j := fun c j a b d e f => by
    subst hV hU; rw [gI_sI, if_neg (by omega), gI_sI, if_neg (by omega), gI_sI, if_neg (by omega), gI_sI, if_neg (by omega), gI_sI, if_neg (by omega)]
  have v3 : ∀ j, gI V 3 j = if j = 4 * ix k + ix w then v &&& 65535 else gI t 3 j := fun j => by
    subst hV hU; rw [gI_sI, if_neg (by omega), gI_sI, if_neg (by omega), gI_sI, if_neg (by omega), gI_sI, if_neg (by omega), gI_sI]; simp
  have v6 : ∀ j, gI V 6 j = if j = ix k then 1 else gI t 6 j := fun j => by
    subst hV hU; rw [gI_sI, if_neg (by omega), gI_sI, if_neg (by omega), gI_sI, if_neg (by omega), gI_sI, gI_sI, if_neg (show ¬ (6 = 3 ∧ j = 4 * ix k + ix w) by omega)]; simp
  have v8 : ∀ j, gI V 8 j = if j = ix k then 0 else gI t 8 j := fun j => by
    subst hV hU; rw [gI_sI, if_neg (by omega), gI_sI, if_neg (by omega), gI_sI, gI_sI, if_neg (show ¬ (8 = 6 ∧ j = ix k) by omega), gI_sI, if_neg (show ¬ (8 = 3 ∧ j = 4 * ix k + ix w) by omega)]; simp
  have v2 : ∀ j, gI V 2 j = if j = ix b then 0 else gI s 2 j := fun j => by
    subst hV hU; rw [gI_sI, if_neg (by omega), gI_sI, gI_sI, if_neg (show ¬ (2 = 8 ∧ j = ix k) by omega), gI_sI, if_neg (show ¬ (2 = 6 ∧ j = ix k) by omega), gI_sI, if_neg (show ¬ (2 = 3 ∧ j = 4 * ix k + ix w) by omega), tc 2 _ (by omega)]; simp
  have v15 : ∀ j, gI V 15 j = if j = ix p then gI s 15 (ix p) + 1 else gI s 15 j := fun j => by
    subst hV hU; rw [gI_sI, gI_sI, if_neg (show ¬ (15 = 2 ∧ j = ix b) by omega), gI_sI, if_neg (show ¬ (15 = 8 ∧ j = ix k) by omega), gI_sI, if_neg (show ¬ (15 = 6 ∧ j = ix k) by omega), gI_sI, if_neg (show ¬ (15 = 3 ∧ j = 4 * ix k + ix w) by omega), tc 15 _ (by omega)]; simp
  clear hV hU U15
  have old : ∀ w', w' < 4 → gI t 3 (4 * ix k + w') = L (ix b) w' := fun w' hw' => (Jt.2.2.2.2.2.2.1 b yb.1 yb.2 w' hw').1 (ix k) (by omega) e4 (tr (by decide))
  refine h yp yb yw V ⟨⟨m, own_put B F P L _ t V m k b Jt hk yb e4 e7 (fun b' hb' w' => ?_) (fun w' hw' => ?_) (fun j hj => ?_) ?_ (fun l hl => ?_) ?_ (fun l hl => ?_) ?_ (fun j hj => ?_) (fun c j hc => vc c j (by omega) (by omega) (by omega) (by omega) (by omega))⟩, fun l hl => ?_, fun l hl l0 => ?_⟩ v2 v15 (fun c j hc => by rw [vc c j (by omega) (by omega) (by omega) (by omega) (by omega), tc c j (by omega)])
  · unfold own_up; rw [if_neg (fun q => hb' q.1)]
  · unfold own_up
    rw [v3]
    by_cases z : w' = ix w
    · rw [if_pos (by omega), if_pos ⟨rfl, z⟩]
    · rw [if_neg (by omega), if_neg (fun q => z q.2), old w' hw']
  · rw [v3, if_neg (by omega)]
  · rw [vc 5 _ (by decide) (by decide) (by decide) (by decide) (by decide)]; exact tr (by decide)
  · rw [vc 5 _ (by decide) (by decide) (by decide) (by decide) (by decide)]
  · rw [v6, if_pos rfl]; decide
  · rw [v6, if_neg hl]
  · rw [v2, if_pos rfl]
  · rw [v2, if_neg hj, tc 2 _ (by omega)]
  · rw [v8]
    by_cases z : l = ix k
    · rw [if_pos z]
    · rw [if_neg z, t8, if_neg z, o8 l hl]
  · rw [vc 4 _ (by decide) (by decide) (by decide) (by decide) (by decide)] at l0
    rw [vc 5 _ (by decide) (by decide) (by decide) (by decide) (by decide)]
    by_cases z : l = ix k
    · rw [z]; exact tr (by decide)
    · exact tv l hl z l0
/-- diskWord -/
theorem own_12 (B F P : Nat) (L : Nat → Nat → Int32) (s : St) (b w : Int32) (O : own_O B F P L s) (Q : Int32 → St → Prop)
    (h : Q (if 0 ≤ b.toInt ∧ b.toInt < B then (if 0 ≤ w.toInt ∧ w.toInt < 4 then (if gI s 2 (ix b) = 0 then -1 else L (ix b) (ix w)) else -4) else -3) s) : calI PP 12 16 [.ref 0, .int b, .int w] s Q := by
  obtain ⟨⟨n, J⟩, o8, ov⟩ := O
  obtain ⟨c14, c15, c16, B8, B32, F2, F8, P1, P4⟩ := J.1
  apply c12_in
  refine own_bb B s b c14 _ ?_
  by_cases yb : 0 ≤ b.toInt ∧ b.toInt < B
  rotate_left
  · rw [if_neg yb] at h ⊢; exact ⟨fun q => absurd q (by decide), fun _ => h⟩
  rw [if_pos yb] at h ⊢
  refine ⟨fun _ => own_bw s w _ ?_, fun q => absurd rfl q⟩
  by_cases yw : 0 ≤ w.toInt ∧ w.toInt < 4
  rotate_left
  · rw [if_neg yw] at h ⊢; exact ⟨fun q => absurd q (by decide), fun _ => h⟩
  rw [if_pos yw] at h ⊢
  have xb := ix_int yb.1
  have xw := ix_int yw.1
  obtain ⟨f1, f2⟩ := own_x4 (k := b) (w := w) (N := 32) (by omega) (by decide) yw
  refine ⟨fun _ => ⟨⟨yb.1, by show _ < (32 : Int); omega⟩, fun a => ?_, fun a => ⟨⟨by omega, by show _ < (128 : Int); omega⟩, ?_⟩⟩, fun q => absurd rfl q⟩
  · rw [if_pos a] at h; exact h
  · rw [if_neg a] at h
    rw [f2, J.2.2.2.2.2.2.2 (ix b) (by omega) a (ix w) (by omega)]; exact h
/-- how many of the first blocks are not known -/
def own_uc (s : St) : Nat → Nat
  | 0 => 0
  | k + 1 => own_uc s k + (if gI s 2 k = 0 then 1 else 0)
theorem own_uc_le (s : St) : ∀ k, own_uc s k ≤ k
  | 0 => Nat.le_refl _
  | k + 1 => by have := own_uc_le s k; unfold own_uc; split <;> omega
theorem own_uc0 {s : St} : ∀ {k}, (∀ j, j < k → gI s 2 j ≠ 0) → own_uc s k = 0
  | 0, _ => rfl
  | k + 1, h => by unfold own_uc; rw [own_uc0 (fun j hj => h j (by omega)), if_neg (h k (by omega))]
theorem own_13 (B F P : Nat) (L : Nat → Nat → Int32) (s : St) (O : own_O B F P L s) (Q : Int32 → St → Prop) (h : ∀ v : Int32, v.toInt = own_uc s B → Q v s) : calI PP 13 16 [.ref 0] s Q := by
  obtain ⟨⟨n, J⟩, o8, ov⟩ := O
  obtain ⟨c14, c15, c16, B8, B32, F2, F8, P1, P4⟩ := J.1
  apply c13_in
  refine loop_up (F := fun i => ∀ x : Int32, x.toInt = own_uc s (ix i) → wpcI PP 13 cm13 16 4 [some (.ref 0), some (.int x), some (.int i)] [] s Q) B (by omega) (fun i i0 i1 e ih x hx => ?_) (fun i hi x hx => ?_) 0 (by decide) (by simp) 0 (by simp [ix, own_uc])
  · have xi := ix_int i0
    have xj := ix_int (i := i + 1) (by omega)
    have ej : ix (i + 1) = ix i + 1 := by omega
    have le := own_uc_le s (ix i)
    refine c13_4 _ _ _ _ ⟨fun _ => ⟨⟨i0, by show _ < (32 : Int); omega⟩, fun m em => ih m ?_⟩, fun q => absurd (by rw [i32_lt, c14]; exact i1) q⟩
    rw [ej, own_uc, em]
    by_cases z : gI s 2 (ix i) = 0
    · have e1 : (x + 1).toInt = x.toInt + 1 := by rw [i32_add] <;> simp <;> omega
      rw [if_pos z, if_pos z, e1]; omega
    · rw [if_neg z, if_neg z]; omega
  · have xi := ix_int (i := i) (by omega)
    have : ix i = B := by omega
    rw [this] at hx
    exact c13_4 _ _ _ _ ⟨fun q => absurd q (by rw [i32_lt, c14]; omega), fun _ => h x hx⟩
/-- peekWord -/
theorem own_0 (x y z : Int32) (Q : St → Prop) (h : ∀ (B F P : Nat) t, (B : Int) = (if x < 8 then (8 : Int32) else if 32 < x then 32 else x).toInt → (F : Int) = (if y < 2 then (2 : Int32) else if 8 < y then 8 else y).toInt → (P : Int) = (if z < 1 then (1 : Int32) else if 4 < z then 4 else z).toInt → own_O B F P (fun _ _ => 0) t → (∀ j, j < 32 → gI t 2 j = 1) → (∀ j, j < 4 → gI t 13 j = -5) → (∀ j, gI t 14 j = 0) → (∀ j, gI t 15 j = 0) → Q t) : calV PP 0 0 [.ref 0, .int x, .int y, .int z] s0 Q := by
  apply c0_in
  apply own_clamp
  apply own_clamp
  apply own_clamp
  generalize eB : (if x < 8 then (8 : Int32) else if 32 < x then 32 else x) = B at h ⊢
  generalize eF : (if y < 2 then (2 : Int32) else if 8 < y then 8 else y) = F at h ⊢
  generalize eP : (if z < 1 then (1 : Int32) else if 4 < z then 4 else z) = P at h ⊢
  have rB := own_cl_rng (by decide) eB.symm
  have rF := own_cl_rng (by decide) eF.symm
  have rP := own_cl_rng (by decide) eP.symm
  simp at rB rF rP
  generalize hS : sI (sI (sI s0 0 14 B) 0 15 F) 0 16 P = S
  have h14 : gI S 0 14 = B := by subst hS; rfl
  have h15 : gI S 0 15 = F := by subst hS; rfl
  have h16 : gI S 0 16 = P := by subst hS; rfl
  have hz : ∀ c j, 1 ≤ c → gI S c j = 0 := fun c j hc => by
    subst hS; rw [gI_sI, if_neg (by omega), gI_sI, if_neg (by omega), gI_sI, if_neg (by omega)]; rfl
  clear hS eB eF eP
  refine loop_up (F := fun i => ∀ u, (∀ c j, c ≠ 2 → gI u c j = gI S c j) → (∀ j, j < ix i → gI u 2 j = 1) → wpcV PP 0 cm0 16 168 [some (.ref 0), none, none, none, some (.int i)] [] u Q) 32 (by decide) (fun i i0 i1 e ih u ua ub => ?_) (fun i hi u ua ub => ?_) 0 (by decide) (by decide) S (fun _ _ _ => rfl) (fun j hj => absurd hj (by simp [ix]))
  · have xi := ix_int i0
    have xj := ix_int (i := i + 1) (by omega)
    refine c0_168 _ _ _ ⟨fun _ => ⟨⟨i0, i1⟩, ih _ (fun c j a => by rw [gI_sI, if_neg (fun q => a q.1), ua c j a]) fun j hj => ?_⟩, fun q => absurd (by rw [i32_lt]; exact i1) q⟩
    rw [gI_sI]
    by_cases w : j = ix i
    · rw [if_pos ⟨rfl, w⟩]
    · rw [if_neg (fun q => w q.2)]; exact ub j (by omega)
  have xi := ix_int (i := i) (by omega)
  have i32 : ix i = 32 := by omega
  rw [i32] at ub
  refine c0_168 _ _ _ ⟨fun q => absurd q (by rw [i32_lt, hi]; decide), fun _ => ?_⟩
  refine loop_up (F := fun i => ∀ v, (∀ c j, c ≠ 4 → gI v c j = gI u c j) → (∀ j, j < ix i → gI v 4 j = -1) → wpcV PP 0 cm0 16 192 [some (.ref 0), none, none, none, some (.int i)] [] v Q) 8 (by decide) (fun i i0 i1 e ih v va vb => ?_) (fun i hi v va vb => ?_) 0 (by decide) (by decide) u (fun _ _ _ => rfl) (fun j hj => absurd hj (by simp [ix]))
  · have xi := ix_int i0
    have xj := ix_int (i := i + 1) (by omega)
    refine c0_192 _ _ _ ⟨fun _ => ⟨⟨i0, i1⟩, ih _ (fun c j a => by rw [gI_sI, if_neg (fun q => a q.1), va c j a]) fun j hj => ?_⟩, fun q => absurd (by rw [i32_lt]; exact i1) q⟩
    rw [gI_sI]
    by_cases w : j = ix i
    · rw [if_pos ⟨rfl, w⟩]
    · rw [if_neg (fun q => w q.2)]; exact vb j (by omega)
  have xi := ix_int (i := i) (by omega)
  have i8 : ix i = 8 := by omega
  rw [i8] at vb
  refine c0_192 _ _ _ ⟨fun q => absurd q (by rw [i32_lt, hi]; decide), fun _ => ?_⟩
  refine loop_up (F := fun i => ∀ w, (∀ c j, c ≠ 13 → c ≠ 16 → gI w c j = gI v c j) → (∀ j, j < ix i → gI w 13 j = -5) → wpcV PP 0 cm0 16 216 [some (.ref 0), none, none, none, some (.int i)] [] w Q) 4 (by decide) (fun i i0 i1 e ih w wa wb => ?_) (fun i hi w wa wb => ?_) 0 (by decide) (by decide) v (fun _ _ _ _ => rfl) (fun j hj => absurd hj (by simp [ix]))
  · have xi := ix_int i0
    have xj := ix_int (i := i + 1) (by omega)
    refine c0_216 _ _ _ ⟨fun _ => ⟨⟨i0, i1⟩, ⟨i0, i1⟩, ih _ (fun c j a b => by rw [gI_sI, if_neg (fun q => b q.1), gI_sI, if_neg (fun q => a q.1), wa c j a b]) fun j hj => ?_⟩, fun q => absurd (by rw [i32_lt]; exact i1) q⟩
    rw [gI_sI, if_neg (by omega), gI_sI]
    by_cases w : j = ix i
    · rw [if_pos ⟨rfl, w⟩]
    · rw [if_neg (fun q => w q.2)]; exact wb j (by omega)
  have xi := ix_int (i := i) (by omega)
  have i4 : ix i = 4 := by omega
  rw [i4] at wb
  refine c0_216 _ _ _ ⟨fun q => absurd q (by rw [i32_lt, hi]; decide), fun _ => ?_⟩
  generalize hT : sI (sI (sI w 0 26 0) 0 30 0) 0 31 0 = T
  have tc : ∀ c j, c ≠ 2 → c ≠ 4 → c ≠ 13 → c ≠ 16 → (c = 0 → j ≠ 26 ∧ j ≠ 30 ∧ j ≠ 31) → gI T c j = gI S c j := fun c j a b d e f => by
    subst hT; rw [gI_sI, if_neg (fun q => (f q.1).2.2 q.2), gI_sI, if_neg (fun q => (f q.1).2.1 q.2), gI_sI, if_neg (fun q => (f q.1).1 q.2), wa c j d e, va c j b, ua c j a]
  have t30 : gI T 0 30 = 0 := by subst hT; simp [gI_sI]
  have t2 : ∀ j, j < 32 → gI T 2 j = 1 := fun j hj => by subst hT; rw [gI_sI, if_neg (by omega), gI_sI, if_neg (by omega), gI_sI, if_neg (by omega), wa 2 _ (by decide) (by decide), va 2 _ (by decide), ub j hj]
  have t4 : ∀ j, j < 8 → gI T 4 j = -1 := fun j hj => by subst hT; rw [gI_sI, if_neg (by omega), gI_sI, if_neg (by omega), gI_sI, if_neg (by omega), wa 4 _ (by decide) (by decide), vb j hj]
  have t13 : ∀ j, j < 4 → gI T 13 j = -5 := fun j hj => by subst hT; rw [gI_sI, if_neg (by omega), gI_sI, if_neg (by omega), gI_sI, if_neg (by omega), wb j hj]
  have tz : ∀ c j, 1 ≤ c → c ≠ 2 → c ≠ 4 → c ≠ 13 → c ≠ 16 → gI T c j = 0 := fun c j a b d e f => by rw [tc c j b d e f (by omega), hz c j a]
  have m1 : ((-1 : Int32)).toInt = -1 := by decide
  have cb0 : ∀ k, own_cb T k = 0 := fun k => by
    induction k with
    | zero => rfl
    | succ k ih => unfold own_cb; rw [ih, if_pos (tz 7 k (by decide) (by decide) (by decide) (by decide) (by decide))]
  have n4 : ∀ k : Nat, k < F.toInt.toNat → (gI T 4 k).toInt = -1 := fun k hk => by rw [t4 k (by omega), m1]
  refine h B.toInt.toNat F.toInt.toNat P.toInt.toNat T (by omega) (by omega) (by omega) ⟨⟨0, ⟨by rw [tc 0 14 (by decide) (by decide) (by decide) (by decide) (by decide), h14]; omega, by rw [tc 0 15 (by decide) (by decide) (by decide) (by decide) (by decide), h15]; omega, by rw [tc 0 16 (by decide) (by decide) (by decide) (by decide) (by decide), h16]; omega, by omega, by omega, by omega, by omega, by omega, by omega⟩, by rw [t30]; decide, (cb0 _).symm, fun i hi => absurd hi (by omega), fun i j hi => absurd hi (by omega), ⟨fun k hk => Or.inl (n4 k hk), fun k l hk hl _ k0 => absurd k0 (by rw [n4 k hk]; decide), fun k hk k0 => absurd k0 (by rw [n4 k hk]; decide)⟩, fun b b0 bB w hw => ⟨fun k hk e => absurd b0 (by rw [← e, n4 k hk]; decide), fun _ => tz 1 _ (by decide) (by decide) (by decide) (by decide) (by decide)⟩, fun b bB kn w hw => tz 1 _ (by decide) (by decide) (by decide) (by decide) (by decide)⟩, fun k hk => tz 8 k (by decide) (by decide) (by decide) (by decide) (by decide), fun k hk k0 => absurd k0 (by rw [n4 k hk]; decide)⟩ t2 t13 (fun j => tz 14 j (by decide) (by decide) (by decide) (by decide) (by decide)) (fun j => tz 15 j (by decide) (by decide) (by decide) (by decide) (by decide))
theorem own_know {B F P : Nat} {L : Nat → Nat → Int32} {s : St} {n : Nat} {b : Nat} (J : own_J B F P L s n) (h : b < B → ∀ w, w < 4 → gI s 1 (4 * b + w) = L b w) : own_J B F P L (sI s 2 b 1) n := by
  obtain ⟨⟨c14, c15, c16, cr⟩, hn, hc', hq, hd, hb, hA, hN⟩ := J
  have tc : ∀ c j, c ≠ 2 → gI (sI s 2 b 1) c j = gI s c j := fun c j a => by rw [gI_sI, if_neg (fun q => a q.1)]
  refine ⟨⟨by rw [tc 0 14 (by decide), c14], by rw [tc 0 15 (by decide), c15], by rw [tc 0 16 (by decide), c16], cr⟩, by rw [tc 0 30 (by decide), hn], by rw [hc']; exact (own_cb_eq (fun j _ => tc 7 j (by decide))).symm, fun i hi => ?_, fun i j hi hj e => ?_, ?_, ?_, fun b' bB kn w hw => ?_⟩
  · unfold own_q1; simp only [tc 4 _ (show (4 : Nat) ≠ 2 by decide), tc 5 _ (show (5 : Nat) ≠ 2 by decide), tc 7 _ (show (7 : Nat) ≠ 2 by decide), tc 10 _ (show (10 : Nat) ≠ 2 by decide), tc 11 _ (show (11 : Nat) ≠ 2 by decide), tc 12 _ (show (12 : Nat) ≠ 2 by decide)]; exact hq i hi
  · rw [tc 10 _ (by decide), tc 10 _ (by decide)] at e; exact hd i j hi hj e
  · unfold own_b; simp only [tc 1 _ (show (1 : Nat) ≠ 2 by decide), tc 3 _ (show (3 : Nat) ≠ 2 by decide), tc 4 _ (show (4 : Nat) ≠ 2 by decide), tc 5 _ (show (5 : Nat) ≠ 2 by decide), tc 6 _ (show (6 : Nat) ≠ 2 by decide)]; exact hb
  · unfold own_A; simp only [tc 1 _ (show (1 : Nat) ≠ 2 by decide), tc 3 _ (show (3 : Nat) ≠ 2 by decide), tc 4 _ (show (4 : Nat) ≠ 2 by decide), tc 5 _ (show (5 : Nat) ≠ 2 by decide)]; exact hA
  · rw [tc 1 _ (by decide)]
    by_cases z : b' = b
    · rw [z]; exact h (by omega) w hw
    · rw [gI_sI, if_neg (fun q => z q.2)] at kn; exact hN b' bB kn w hw

theorem own_25 (F : Nat) (s : St) (k b w v : Int32) (hF : (gI s 0 15).toInt = F) (h8 : F ≤ 8) (hk : 0 ≤ k.toInt ∧ k.toInt < F) (hw : 0 ≤ w.toInt ∧ w.toInt < 4) (Q : St → Prop) (h : Q (sI s 3 (4 * ix k + ix w) v)) : calV PP 25 16 [.ref 0, .int k, .int b, .int w, .int v] s Q := by
  obtain ⟨f1, f2⟩ := own_x4 (k := k) (w := w) (N := 32) (by omega) (by decide) hw
  apply c25_in
  refine own_22 F s k hF hk _ ⟨fun q => absurd q (by decide), fun _ => ⟨⟨by omega, by show _ < (32 : Int); omega⟩, ?_⟩⟩
  rw [f2]; exact h
theorem own_28 (F : Nat) (s : St) (k : Int32) (hF : (gI s 0 15).toInt = F) (h8 : F ≤ 8) (hk : 0 ≤ k.toInt ∧ k.toInt < F) (Q : St → Prop) (h : Q (sI (sI s 5 (ix k) 1) 6 (ix k) 1)) : calV PP 28 16 [.ref 0, .int k] s Q := by
  have kb : inb 8 k := ⟨hk.1, by show _ < (8 : Int); omega⟩
  apply c28_in
  exact own_22 F s k hF hk _ ⟨fun q => absurd q (by decide), fun _ => ⟨kb, kb, h⟩⟩
theorem own_24 (F : Nat) (s : St) (k b w : Int32) (hF : (gI s 0 15).toInt = F) (h8 : F ≤ 8) (hk : 0 ≤ k.toInt ∧ k.toInt < F) (hw : 0 ≤ w.toInt ∧ w.toInt < 4) (hv : gI s 5 (ix k) ≠ 0) (Q : Int32 → St → Prop) (h : Q (gI s 3 (4 * ix k + ix w)) s) : calI PP 24 16 [.ref 0, .int k, .int b, .int w] s Q := by
  obtain ⟨f1, f2⟩ := own_x4 (k := k) (w := w) (N := 32) (by omega) (by decide) hw
  apply c24_in
  refine own_22 F s k hF hk _ ⟨fun q => absurd q (by decide), fun _ => ⟨⟨hk.1, by show _ < (8 : Int); omega⟩, fun q => absurd q hv, fun _ => ⟨⟨by omega, by show _ < (32 : Int); omega⟩, ?_⟩⟩⟩
  rw [f2]; exact h
/-- read -/
theorem own_5 (B F P : Nat) (L : Nat → Nat → Int32) (s : St) (p b w : Int32) (O : own_O B F P L s) (Q : Int32 → St → Prop)
    (hp : ¬ (0 ≤ p.toInt ∧ p.toInt < P) → Q (-2) s) (hb : (0 ≤ p.toInt ∧ p.toInt < P) → ¬ (0 ≤ b.toInt ∧ b.toInt < B) → Q (-3) s) (hw : (0 ≤ p.toInt ∧ p.toInt < P) → (0 ≤ b.toInt ∧ b.toInt < B) → ¬ (0 ≤ w.toInt ∧ w.toInt < 4) → Q (-4) s)
    (h : (0 ≤ p.toInt ∧ p.toInt < P) → (0 ≤ b.toInt ∧ b.toInt < B) → (0 ≤ w.toInt ∧ w.toInt < 4) → ∀ t, own_O B F P L t → (∀ j, gI t 13 j = if j = ix p then L (ix b) (ix w) else gI s 13 j) → (∀ j, gI t 14 j = if j = ix p then gI s 14 (ix p) + 1 else gI s 14 j) → (∀ c j, c = 2 ∨ c = 15 → gI t c j = gI s c j) → Q (L (ix b) (ix w)) t) : calI PP 5 16 [.ref 0, .int p, .int b, .int w] s Q := by
  obtain ⟨⟨n, J⟩, o8, ov⟩ := O
  obtain ⟨c14, c15, c16, B8, B32, F2, F8, P1, P4⟩ := J.1
  apply c5_in
  refine own_bp P s p c16 _ ?_
  by_cases yp : 0 ≤ p.toInt ∧ p.toInt < P
  rotate_left
  · rw [if_neg yp]; exact ⟨fun q => absurd q (by decide), fun _ => hp yp⟩
  rw [if_pos yp]
  refine ⟨fun _ => own_bb B s b c14 _ ?_, fun q => absurd rfl q⟩
  by_cases yb : 0 ≤ b.toInt ∧ b.toInt < B
  rotate_left
  · rw [if_neg yb]; exact ⟨fun q => absurd q (by decide), fun _ => hb yp yb⟩
  rw [if_pos yb]
  refine ⟨fun _ => own_bw s w _ ?_, fun q => absurd rfl q⟩
  by_cases yw : 0 ≤ w.toInt ∧ w.toInt < 4
  rotate_left
  · rw [if_neg yw]; exact ⟨fun q => absurd q (by decide), fun _ => hw yp yb yw⟩
  rw [if_pos yw]
  refine ⟨fun _ => ?_, fun q => absurd rfl q⟩
  refine own_32 B F P L s n p b 1 J ⟨0, by omega, o8 0 (by omega)⟩ (fun k hk q => absurd (o8 k hk) q) ov yb _ fun t m k Jt hk e4 e7 s8 t8 t4 tv tr tc => ?_
  have t15 : (gI t 0 15).toInt = F := Jt.1.2.1
  have xk := ix_int hk.1
  have xb := ix_int yb.1
  have xw := ix_int yw.1
  have xp := ix_int yp.1
  have val := (Jt.2.2.2.2.2.2.1 b yb.1 yb.2 (ix w) (by omega)).1 (ix k) (by omega) e4 (tr (by decide))
  refine own_24 F t k b w t15 F8 hk yw (tr (by decide)) _ ?_
  rw [val]
  refine own_29 F t k t15 F8 hk _ ?_
  have pb : inb 4 p := ⟨yp.1, by show _ < (4 : Int); omega⟩
  refine ⟨pb, pb, pb, ?_⟩
  generalize hU : sI t 8 (ix k) 0 = U
  have uc : ∀ c j, c ≠ 8 → gI U c j = gI t c j := fun c j a => by subst hU; rw [gI_sI, if_neg (fun q => a q.1)]
  have u8 : ∀ l, gI U 8 l = if l = ix k then 0 else gI s 8 l := fun l => by
    subst hU; rw [gI_sI]
    by_cases z : l = ix k
    · rw [if_pos ⟨rfl, z⟩, if_pos z]
    · rw [if_neg (fun q => z q.2), if_neg z, t8, if_neg z]
  clear hU
  have U14 : gI U 14 (ix p) = gI s 14 (ix p) := by rw [uc 14 _ (by decide), tc 14 _ (by omega)]
  rw [U14]
  generalize hV : sI (sI U 13 (ix p) (L (ix b) (ix w))) 14 (ix p) (gI s 14 (ix p) + 1) = V
  have vc : ∀ c j, c ≠ 13 → c ≠ 14 → gI V c j = gI U c j := fun c j a b => by subst hV; rw [gI_sI, if_neg (fun q => b q.1), gI_sI, if_neg (fun q => a q.1)]
  have v13 : ∀ j, gI V 13 j = if j = ix p then L (ix b) (ix w) else gI s 13 j := fun j => by
    subst hV; rw [gI_sI, if_neg (by omega), gI_sI, uc 13 _ (by decide), tc 13 _ (by omega)]; simp
  have v14 : ∀ j, gI V 14 j = if j = ix p then gI s 14 (ix p) + 1 else gI s 14 j := fun j => by
    subst hV; rw [gI_sI, gI_sI, if_neg (show ¬ (14 = 13 ∧ j = ix p) by omega), uc 14 _ (by decide), tc 14 _ (by omega)]; simp
  clear hV
  refine h yp yb yw V ⟨⟨m, own_J_fr Jt fun c j hc => by rw [vc c j (by omega) (by omega), uc c j (by omega)]⟩, fun l hl => ?_, fun l hl l0 => ?_⟩ v13 v14 (fun c j hc => by rw [vc c j (by omega) (by omega), uc c j (by omega), tc c j (by omega)])
  · rw [vc 8 _ (by decide) (by decide), u8]; split
    · rfl
    · exact o8 l hl
  · rw [vc 4 _ (by decide) (by decide), uc 4 _ (by decide)] at l0
    rw [vc 5 _ (by decide) (by decide), uc 5 _ (by decide)]
    by_cases z : l = ix k
    · rw [z]; exact tr (by decide)
    · exact tv l hl z l0
def own_fl (L : Nat → Nat → Int32) (b : Nat) (f : Nat → Int32) : Nat → Nat → Int32 := fun b' w' => if b' = b then f w' else L b' w'
/-- a held buffer, got for the block b, its four words stored, marked full and let go -/
theorem own_full (B F P : Nat) (L : Nat → Nat → Int32) (t u : St) (m : Nat) (k b : Int32) (f : Nat → Int32) (J : own_J B F P L t m) (hk : 0 ≤ k.toInt ∧ k.toInt < F) (hb : 0 ≤ b.toInt ∧ b.toInt < B) (e4 : gI t 4 (ix k) = b) (e7 : gI t 7 (ix k) = 0)
    (u3 : ∀ w, w < 4 → gI u 3 (4 * ix k + w) = f w) (u3' : ∀ j, j < 4 * ix k ∨ 4 * ix k + 4 ≤ j → gI u 3 j = gI t 3 j) (u5 : ∀ l, gI u 5 l = if l = ix k then 1 else gI t 5 l) (u6 : ∀ l, gI u 6 l = if l = ix k then 1 else gI t 6 l) (u2 : ∀ j, gI u 2 j = if j = ix b then 0 else gI t 2 j) (uc : ∀ c j, (c = 1 ∨ c = 4 ∨ c = 7 ∨ 10 ≤ c ∧ c ≤ 12 ∨ (c = 0 ∧ j ≠ 26 ∧ j ≠ 31)) → gI u c j = gI t c j) : own_J B F P (own_fl L (ix b) f) u m := by
  refine own_put B F P L _ t u m k b J hk hb e4 e7 (fun b' hb' w' => ?_) (fun w' hw' => ?_) u3' ?_ (fun l hl => ?_) ?_ (fun l hl => ?_) ?_ (fun j hj => ?_) uc
  · unfold own_fl; rw [if_neg hb']
  · unfold own_fl; rw [if_pos rfl, u3 w' hw']
  · rw [u5, if_pos rfl]; decide
  · rw [u5, if_neg hl]
  · rw [u6, if_pos rfl]; decide
  · rw [u6, if_neg hl]
  · rw [u2, if_pos rfl]
  · rw [u2, if_neg hj]
/-- fill -/
theorem own_7 (B F P : Nat) (L : Nat → Nat → Int32) (s : St) (p b v : Int32) (O : own_O B F P L s) (Q : Int32 → St → Prop)
    (hp : ¬ (0 ≤ p.toInt ∧ p.toInt < P) → Q (-2) s) (hb : (0 ≤ p.toInt ∧ p.toInt < P) → ¬ (0 ≤ b.toInt ∧ b.toInt < B) → Q (-3) s)
    (h : (0 ≤ p.toInt ∧ p.toInt < P) → (0 ≤ b.toInt ∧ b.toInt < B) → ∀ t, own_O B F P (own_fl L (ix b) fun _ => v &&& 65535) t → (∀ j, gI t 2 j = if j = ix b then 0 else gI s 2 j) → (∀ j, gI t 15 j = if j = ix p then gI s 15 (ix p) + 1 else gI s 15 j) → (∀ c j, c = 13 ∨ c = 14 → gI t c j = gI s c j) → Q 0 t) : calI PP 7 16 [.ref 0, .int p, .int b, .int v] s Q := by
  obtain ⟨⟨n, J⟩, o8, ov⟩ := O
  obtain ⟨c14, c15, c16, B8, B32, F2, F8, P1, P4⟩ := J.1
  apply c7_in
  refine own_bp P s p c16 _ ?_
  by_cases yp : 0 ≤ p.toInt ∧ p.toInt < P
  rotate_left
  · rw [if_neg yp]; exact ⟨fun q => absurd q (by decide), fun _ => hp yp⟩
  rw [if_pos yp]
  refine ⟨fun _ => own_bb B s b c14 _ ?_, fun q => absurd rfl q⟩
  by_cases yb : 0 ≤ b.toInt ∧ b.toInt < B
  rotate_left
  · rw [if_neg yb]; exact ⟨fun q => absurd q (by decide), fun _ => hb yp yb⟩
  rw [if_pos yb]
  refine ⟨fun _ => ?_, fun q => absurd rfl q⟩
  refine own_32 B F P L s n p b 0 J ⟨0, by omega, o8 0 (by omega)⟩ (fun k hk q => absurd (o8 k hk) q) ov yb _ fun t m k Jt hk e4 e7 s8 t8 t4 tv tr tc => ?_
  have t15 : (gI t 0 15).toInt = F := Jt.1.2.1
  have xk := ix_int hk.1
  have xb := ix_int yb.1
  have xp := ix_int yp.1
  have pb : inb 4 p := ⟨yp.1, by show _ < (4 : Int); omega⟩
  refine loop_up (F := fun x => ∀ u, (∀ c j, c ≠ 3 → gI u c j = gI t c j) → (∀ w, w < ix x → gI u 3 (4 * ix k + w) = v &&& 65535) → (∀ j, j < 4 * ix k ∨ 4 * ix k + 4 ≤ j → gI u 3 j = gI t 3 j) → wpcI PP 7 cm7 16 40 [some (.ref 0), some (.int p), some (.int b), none, some (.int (v &&& 65535)), some (.int k), some (.int x)] [] u Q) 4 (by decide) (fun x x0 x1 e ih u ua ub ud => ?_) (fun x hx u ua ub ud => ?_) 0 (by decide) (by decide) t (fun _ _ _ => rfl) (fun w hw => absurd hw (by simp [ix])) (fun _ _ => rfl)
  · have xx := ix_int x0
    have xy := ix_int (i := x + 1) (by omega)
    refine c7_40 _ _ _ _ _ _ _ ⟨fun _ => own_25 F u k b x _ (by rw [ua 0 _ (by decide), t15]) F8 hk ⟨x0, x1⟩ _ (ih _ (fun c j a => by rw [gI_sI, if_neg (fun q => a q.1), ua c j a]) (fun w hw => ?_) (fun j hj => ?_)), fun q => absurd (by rw [i32_lt]; exact x1) q⟩
    · rw [gI_sI]
      by_cases z : w = ix x
      · rw [if_pos ⟨rfl, by rw [z]⟩]
      · rw [if_neg (by omega)]; exact ub w (by omega)
    · rw [gI_sI, if_neg (by omega)]; exact ud j hj
  · have xx := ix_int (i := x) (by omega)
    refine c7_40 _ _ _ _ _ _ _ ⟨fun q => absurd q (by rw [i32_lt, hx]; decide), fun _ => ?_⟩
    refine own_28 F u k (by rw [ua 0 _ (by decide), t15]) F8 hk _ ?_
    refine own_29 F _ k (by rw [gI_sI, if_neg (by omega), gI_sI, if_neg (by omega), ua 0 _ (by decide), t15]) F8 hk _ ?_
    refine ⟨⟨yb.1, by show _ < (32 : Int); omega⟩, pb, pb, ?_⟩
    generalize hV : sI (sI (sI u 5 (ix k) 1) 6 (ix k) 1) 8 (ix k) 0 = V
    have vc : ∀ c j, c ≠ 5 → c ≠ 6 → c ≠ 8 → gI V c j = gI u c j := fun c j a b d => by subst hV; rw [gI_sI, if_neg (by omega), gI_sI, if_neg (by omega), gI_sI, if_neg (by omega)]
    have v5 : ∀ l, gI V 5 l = if l = ix k then 1 else gI t 5 l := fun l => by subst hV; rw [gI_sI, if_neg (by omega), gI_sI, if_neg (by omega), gI_sI, ua 5 _ (by decide)]; simp
    have v6 : ∀ l, gI V 6 l = if l = ix k then 1 else gI t 6 l := fun l => by subst hV; rw [gI_sI, if_neg (by omega), gI_sI, gI_sI, if_neg (show ¬ (6 = 5 ∧ l = ix k) by omega), ua 6 _ (by decide)]; simp
    have v8 : ∀ l, gI V 8 l = if l = ix k then 0 else gI s 8 l := fun l => by
      subst hV; rw [gI_sI, gI_sI, if_neg (show ¬ (8 = 6 ∧ l = ix k) by omega), gI_sI, if_neg (show ¬ (8 = 5 ∧ l = ix k) by omega), ua 8 _ (by decide), t8]
      by_cases z : l = ix k <;> simp [z]
    clear hV
    have V15 : gI V 15 (ix p) = gI s 15 (ix p) := by rw [vc 15 _ (by decide) (by decide) (by decide), ua 15 _ (by decide), tc 15 _ (by omega)]
    rw [V15]
    generalize hW : sI (sI V 2 (ix b) 0) 15 (ix p) (gI s 15 (ix p) + 1) = W
    have wc : ∀ c j, c ≠ 2 → c ≠ 15 → gI W c j = gI V c j := fun c j a b => by subst hW; rw [gI_sI, if_neg (by omega), gI_sI, if_neg (by omega)]
    have w2 : ∀ j, gI W 2 j = if j = ix b then 0 else gI s 2 j := fun j => by subst hW; rw [gI_sI, if_neg (by omega), gI_sI, vc 2 _ (by decide) (by decide) (by decide), ua 2 _ (by decide), tc 2 _ (by omega)]; simp
    have w15 : ∀ j, gI W 15 j = if j = ix p then gI s 15 (ix p) + 1 else gI s 15 j := fun j => by subst hW; rw [gI_sI, gI_sI, if_neg (show ¬ (15 = 2 ∧ j = ix b) by omega), vc 15 _ (by decide) (by decide) (by decide), ua 15 _ (by decide), tc 15 _ (by omega)]; simp
    clear hW
    refine h yp yb W ⟨⟨m, own_full B F P L t W m k b _ Jt hk yb e4 e7 (fun w hw => ?_) (fun j hj => ?_) (fun l => ?_) (fun l => ?_) (fun j => ?_) (fun c j hc => by rw [wc c j (by omega) (by omega), vc c j (by omega) (by omega) (by omega), ua c j (by omega)])⟩, fun l hl => ?_, fun l hl l0 => ?_⟩ w2 w15 (fun c j hc => by rw [wc c j (by omega) (by omega), vc c j (by omega) (by omega) (by omega), ua c j (by omega), tc c j (by omega)])
    · rw [wc 3 _ (by decide) (by decide), vc 3 _ (by decide) (by decide) (by decide), ub w (by omega)]
    · rw [wc 3 _ (by decide) (by decide), vc 3 _ (by decide) (by decide) (by decide), ud j hj]
    · rw [wc 5 _ (by decide) (by decide), v5]
    · rw [wc 6 _ (by decide) (by decide), v6]
    · rw [w2, tc 2 _ (by omega)]
    · rw [wc 8 _ (by decide) (by decide), v8]; split
      · rfl
      · exact o8 l hl
    · rw [wc 4 _ (by decide) (by decide), vc 4 _ (by decide) (by decide) (by decide), ua 4 _ (by decide)] at l0
      rw [wc 5 _ (by decide) (by decide), v5]
      by_cases z : l = ix k
      · rw [if_pos z]; decide
      · rw [if_neg z]; exact tv l hl z l0
/-- interrupts in a row -/
theorem own_9 (B F P : Nat) (L : Nat → Nat → Int32) (s : St) (x : Int32) (O : own_O B F P L s) (Q : St → Prop) (h : ∀ t, own_O B F P L t → (∀ c j, c = 2 ∨ c = 13 ∨ c = 14 ∨ c = 15 → gI t c j = gI s c j) → Q t) : calV PP 9 16 [.ref 0, .int x] s Q := by
  obtain ⟨⟨n, J⟩, o8, ov⟩ := O
  apply c9_in
  apply own_clamp
  generalize em : (if x < 0 then (0 : Int32) else if 64 < x then 64 else x) = m
  have r := own_cl_rng (by decide) em.symm
  simp at r
  have fin : ∀ u n', own_J B F P L u n' → own_T s u → Q u := fun u n' Ju Tu => h u ⟨⟨n', Ju⟩, fun k hk => by rw [Tu.1 8 k (by omega), o8 k hk], fun k hk k0 => (Tu.2 k).1 (ov k hk (by rw [← Tu.1 4 k (by omega)]; exact k0))⟩ fun c j hc => Tu.1 c j (by omega)
  refine loop_up (F := fun i => ∀ u n', own_J B F P L u n' → own_T s u → wpcV PP 9 cm9 16 11 [some (.ref 0), none, some (.int m), some (.int i)] [] u Q) m.toInt (by omega) (fun i i0 i1 e ih u n' Ju Tu => ?_) (fun i hi u n' Ju Tu => ?_) 0 (by decide) (by simp; omega) s n J (own_T_rfl s)
  · refine c9_11 _ _ _ _ ⟨fun _ => ?_, fun q => absurd (by rw [i32_lt]; exact i1) q⟩
    exact own_40 B F P L u n' Ju _ (fun _ => ⟨fun _ => fin u n' Ju Tu, fun q => absurd rfl q⟩) fun t k _ _ Jt St a1 a2 a3 a4 a5 => ⟨fun q => absurd q (by decide), fun _ => ih t _ Jt (own_T_tr Tu (own_40T St a1 a2 a3 a4 a5))⟩
  · exact c9_11 _ _ _ _ ⟨fun q => absurd q (by rw [i32_lt]; omega), fun _ => fin u n' Ju Tu⟩
/-- copyBlock -/
theorem own_8 (B F P : Nat) (L : Nat → Nat → Int32) (s : St) (p a b : Int32) (O : own_O B F P L s) (Q : Int32 → St → Prop)
    (hp : ¬ (0 ≤ p.toInt ∧ p.toInt < P) → Q (-2) s) (ha : (0 ≤ p.toInt ∧ p.toInt < P) → ¬ (0 ≤ a.toInt ∧ a.toInt < B) → Q (-3) s) (hb : (0 ≤ p.toInt ∧ p.toInt < P) → (0 ≤ a.toInt ∧ a.toInt < B) → ¬ (0 ≤ b.toInt ∧ b.toInt < B) → Q (-3) s)
    (h : (0 ≤ p.toInt ∧ p.toInt < P) → (0 ≤ a.toInt ∧ a.toInt < B) → (0 ≤ b.toInt ∧ b.toInt < B) → ∀ t, own_O B F P (own_fl L (ix b) (L (ix a))) t → (∀ j, gI t 2 j = if j = ix b then 0 else gI s 2 j) → (∀ j, gI t 14 j = if j = ix p then gI s 14 (ix p) + 1 else gI s 14 j) → (∀ j, gI t 15 j = if j = ix p then gI s 15 (ix p) + 1 else gI s 15 j) → (∀ j, gI t 13 j = gI s 13 j) → Q 0 t) : calI PP 8 16 [.ref 0, .int p, .int a, .int b] s Q := by
  obtain ⟨⟨n, J⟩, o8, ov⟩ := O
  obtain ⟨c14, c15, c16, B8, B32, F2, F8, P1, P4⟩ := J.1
  apply c8_in
  refine own_bp P s p c16 _ ?_
  by_cases yp : 0 ≤ p.toInt ∧ p.toInt < P
  rotate_left
  · rw [if_neg yp]; exact ⟨fun q => absurd q (by decide), fun _ => hp yp⟩
  rw [if_pos yp]
  refine ⟨fun _ => own_bb B s a c14 _ ?_, fun q => absurd rfl q⟩
  by_cases ya : 0 ≤ a.toInt ∧ a.toInt < B
  rotate_left
  · rw [if_neg ya]; exact ⟨fun q => absurd q (by decide), fun _ => ha yp ya⟩
  rw [if_pos ya]
  refine ⟨fun _ => own_bb B s b c14 _ ?_, fun q => absurd rfl q⟩
  by_cases yb : 0 ≤ b.toInt ∧ b.toInt < B
  rotate_left
  · rw [if_neg yb]; exact ⟨fun q => absurd q (by decide), fun _ => hb yp ya yb⟩
  rw [if_pos yb]
  refine ⟨fun _ => ?_, fun q => absurd rfl q⟩
  have xa := ix_int ya.1
  have xb := ix_int yb.1
  have xp := ix_int yp.1
  have pb : inb 4 p := ⟨yp.1, by show _ < (4 : Int); omega⟩
  -- the end, from the state V before the marks of the call
  have fin : ∀ (V t : St) (m : Nat) (k : Int32), own_J B F P L t m → (0 ≤ k.toInt ∧ k.toInt < F) → gI t 4 (ix k) = b → gI t 7 (ix k) = 0 → (∀ w, w < 4 → gI V 3 (4 * ix k + w) = L (ix a) w) → (∀ j, j < 4 * ix k ∨ 4 * ix k + 4 ≤ j → gI V 3 j = gI t 3 j) → gI V 5 (ix k) ≠ 0 → (∀ l, l ≠ ix k → gI V 5 l = gI t 5 l) → gI V 6 (ix k) ≠ 0 → (∀ l, l ≠ ix k → gI V 6 l = gI t 6 l) → (∀ c j, (c = 1 ∨ c = 4 ∨ c = 7 ∨ 10 ≤ c ∧ c ≤ 12 ∨ (c = 0 ∧ j ≠ 26 ∧ j ≠ 31)) → gI V c j = gI t c j) → (∀ l, l < F → gI V 8 l = 0) → (∀ l, l < F → l ≠ ix k → 0 ≤ (gI t 4 l).toInt → gI t 5 l ≠ 0) → (∀ c j, (c = 2 ∨ c = 13 ∨ c = 14 ∨ c = 15) → gI V c j = gI s c j ∧ gI t c j = gI s c j) → wpcI PP 8 cm8 16 71 [some (.ref 0), some (.int p), none, some (.int b), none] [] V Q := by
    intro V t m k Jt hk e4 e7 v3 v3' v5 v5' v6 v6' vc v8 tv vs
    refine c8_71 _ _ _ _ ⟨⟨yb.1, by show _ < (32 : Int); omega⟩, pb, pb, pb, pb, ?_⟩
    rw [(vs 14 (ix p) (by omega)).1, (vs 15 (ix p) (by omega)).1]
    generalize hW : sI (sI (sI V 2 (ix b) 0) 14 (ix p) (gI s 14 (ix p) + 1)) 15 (ix p) (gI s 15 (ix p) + 1) = W
    have wc : ∀ c j, c ≠ 2 → c ≠ 14 → c ≠ 15 → gI W c j = gI V c j := fun c j a b d => by subst hW; rw [gI_sI, if_neg (by omega), gI_sI, if_neg (by omega), gI_sI, if_neg (by omega)]
    have w2 : ∀ j, gI W 2 j = if j = ix b then 0 else gI s 2 j := fun j => by subst hW; rw [gI_sI, if_neg (by omega), gI_sI, if_neg (by omega), gI_sI, (vs 2 j (by omega)).1]; simp
    have w14 : ∀ j, gI W 14 j = if j = ix p then gI s 14 (ix p) + 1 else gI s 14 j := fun j => by subst hW; rw [gI_sI, if_neg (by omega), gI_sI, gI_sI, if_neg (show ¬ (14 = 2 ∧ j = ix b) by omega), (vs 14 j (by omega)).1]; simp
    have w15 : ∀ j, gI W 15 j = if j = ix p then gI s 15 (ix p) + 1 else gI s 15 j := fun j => by subst hW; rw [gI_sI, gI_sI, if_neg (show ¬ (15 = 14 ∧ j = ix p) by omega), gI_sI, if_neg (show ¬ (15 = 2 ∧ j = ix b) by omega), (vs 15 j (by omega)).1]; simp
    clear hW
    refine h yp ya yb W ⟨⟨m, own_put B F P L _ t W m k b Jt hk yb e4 e7 (fun b' hb' w' => ?_) (fun w hw => ?_) (fun j hj => ?_) ?_ (fun l hl => ?_) ?_ (fun l hl => ?_) ?_ (fun j hj => ?_) (fun c j hc => by rw [wc c j (by omega) (by omega) (by omega), vc c j hc])⟩, fun l hl => ?_, fun l hl l0 => ?_⟩ w2 w14 w15 (fun j => by rw [wc 13 _ (by decide) (by decide) (by decide), (vs 13 j (by omega)).1])
    · unfold own_fl; rw [if_neg hb']
    · unfold own_fl; rw [if_pos rfl, wc 3 _ (by decide) (by decide) (by decide), v3 w hw]
    · rw [wc 3 _ (by decide) (by decide) (by decide), v3' j hj]
    · rw [wc 5 _ (by decide) (by decide) (by decide)]; exact v5
    · rw [wc 5 _ (by decide) (by decide) (by decide), v5' l hl]
    · rw [wc 6 _ (by decide) (by decide) (by decide)]; exact v6
    · rw [wc 6 _ (by decide) (by decide) (by decide), v6' l hl]
    · rw [w2, if_pos rfl]
    · rw [w2, if_neg hj, (vs 2 j (by omega)).2]
    · rw [wc 8 _ (by decide) (by decide) (by decide), v8 l hl]
    · rw [wc 4 _ (by decide) (by decide) (by decide), vc 4 _ (by omega)] at l0
      rw [wc 5 _ (by decide) (by decide) (by decide)]
      by_cases z : l = ix k
      · rw [z]; exact v5
      · rw [v5' l z]; exact tv l hl z l0
  refine own_32 B F P L s n p a 1 J ⟨0, by omega, o8 0 (by omega)⟩ (fun k hk q => absurd (o8 k hk) q) ov ya _ fun t m k Jt hk e4 e7 s8 t8 t4 tv tr tc => ?_
  have t15 : (gI t 0 15).toInt = F := Jt.1.2.1
  have xk := ix_int hk.1
  have kb : inb 8 k := ⟨hk.1, by show _ < (8 : Int); omega⟩
  have k5 := tr (by decide)
  have val : ∀ w, w < 4 → gI t 3 (4 * ix k + w) = L (ix a) w := fun w hw => (Jt.2.2.2.2.2.2.1 a ya.1 ya.2 w hw).1 (ix k) (by omega) e4 k5
  refine ⟨fun eab => ?_, fun nab => ?_⟩
  · subst eab
    apply c27_in
    refine own_22 F t k t15 hk _ ⟨fun q => absurd q (by decide), fun _ => ⟨kb, ?_⟩⟩
    refine own_29 F _ k (by rw [gI_sI, if_neg (by omega), t15]) F8 hk _ ?_
    generalize hV : sI (sI t 6 (ix k) 1) 8 (ix k) 0 = V
    have vc : ∀ c j, c ≠ 6 → c ≠ 8 → gI V c j = gI t c j := fun c j a b => by subst hV; rw [gI_sI, if_neg (by omega), gI_sI, if_neg (by omega)]
    have v6 : ∀ l, gI V 6 l = if l = ix k then 1 else gI t 6 l := fun l => by subst hV; rw [gI_sI, if_neg (by omega), gI_sI]; simp
    have v8 : ∀ l, gI V 8 l = if l = ix k then 0 else gI t 8 l := fun l => by subst hV; rw [gI_sI, gI_sI, if_neg (show ¬ (8 = 6 ∧ l = ix k) by omega)]; simp
    clear hV
    refine fin V t m k Jt hk e4 e7 (fun w hw => ?_) (fun j hj => vc 3 j (by decide) (by decide)) ?_ (fun l hl => vc 5 l (by decide) (by decide)) ?_ (fun l hl => ?_) (fun c j hc => vc c j (by omega) (by omega)) (fun l hl => ?_) tv (fun c j hc => ⟨by rw [vc c j (by omega) (by omega), tc c j hc], tc c j hc⟩)
    · rw [vc 3 _ (by decide) (by decide), val w hw]
    · rw [vc 5 _ (by decide) (by decide)]; exact k5
    · rw [v6, if_pos rfl]; decide
    · rw [v6, if_neg hl]
    · rw [v8, t8]
      by_cases z : l = ix k
      · rw [if_pos z]
      · rw [if_neg z, if_neg z, o8 l hl]
  · apply c23_in
    have x1 : ix (1 : Int32) = 1 := by decide
    have x2 : ix (2 : Int32) = 2 := by decide
    have x3 : ix (3 : Int32) = 3 := by decide
    have x0 : ix (0 : Int32) = 0 := by decide
    refine own_24 F t k a 0 t15 F8 hk (by decide) k5 _ (own_24 F t k a 1 t15 F8 hk (by decide) k5 _ (own_24 F t k a 2 t15 F8 hk (by decide) k5 _ (own_24 F t k a 3 t15 F8 hk (by decide) k5 _ ?_)))
    rw [x0, x1, x2, x3, val 0 (by decide), val 1 (by decide), val 2 (by decide), val 3 (by decide)]
    have free : ∃ l, l < F ∧ gI t 8 l = 0 := by
      by_cases z : ix k = 0
      · exact ⟨1, by omega, by rw [t8, if_neg (by omega), o8 1 (by omega)]⟩
      · exact ⟨0, by omega, by rw [t8, if_neg (by omega), o8 0 (by omega)]⟩
    refine own_32 B F P L t m p b 0 Jt free (fun l hl q => ?_) (fun l hl l0 => ?_) yb _ fun u m' l Ju hl f4 f7 t8l u8 u4 uv ur uc => ?_
    · have z : l = ix k := Classical.byContradiction fun z => q (by rw [t8, if_neg z, o8 l hl])
      rw [z, e4]; exact ⟨e7, nab⟩
    · by_cases z : l = ix k
      · rw [z]; exact k5
      · exact tv l hl z l0
    have xl := ix_int hl.1
    have lk : ix l ≠ ix k := fun z => by rw [z, t8, if_pos rfl] at t8l; exact absurd t8l (by decide)
    have u15 : (gI u 0 15).toInt = F := Ju.1.2.1
    refine own_25 F u l b 0 _ u15 F8 hl (by decide) _ ?_
    refine own_25 F _ l b 1 _ (by rw [gI_sI, if_neg (by omega), u15]) F8 hl (by decide) _ ?_
    refine own_25 F _ l b 2 _ (by rw [gI_sI, if_neg (by omega), gI_sI, if_neg (by omega), u15]) F8 hl (by decide) _ ?_
    refine own_25 F _ l b 3 _ (by rw [gI_sI, if_neg (by omega), gI_sI, if_neg (by omega), gI_sI, if_neg (by omega), u15]) F8 hl (by decide) _ ?_
    rw [x0, x1, x2, x3]
    generalize hX : sI (sI (sI (sI u 3 (4 * ix l + 0) (L (ix a) 0)) 3 (4 * ix l + 1) (L (ix a) 1)) 3 (4 * ix l + 2) (L (ix a) 2)) 3 (4 * ix l + 3) (L (ix a) 3) = X
    have Xc : ∀ c j, c ≠ 3 → gI X c j = gI u c j := fun c j h => by subst hX; rw [gI_sI, if_neg (by omega), gI_sI, if_neg (by omega), gI_sI, if_neg (by omega), gI_sI, if_neg (by omega)]
    have X3 : ∀ w, w < 4 → gI X 3 (4 * ix l + w) = L (ix a) w := fun w hw => by
      subst hX
      have c : w = 0 ∨ w = 1 ∨ w = 2 ∨ w = 3 := by omega
      rcases c with rfl | rfl | rfl | rfl <;> simp [gI_sI]
    have X3' : ∀ j, j < 4 * ix l ∨ 4 * ix l + 4 ≤ j → gI X 3 j = gI u 3 j := fun j h => by subst hX; rw [gI_sI, if_neg (by omega), gI_sI, if_neg (by omega), gI_sI, if_neg (by omega), gI_sI, if_neg (by omega)]
    clear hX
    have X15 : (gI X 0 15).toInt = F := by rw [Xc 0 _ (by decide), u15]
    refine own_28 F X l X15 F8 hl _ ?_
    refine own_29 F _ l (by rw [gI_sI, if_neg (by omega), gI_sI, if_neg (by omega), X15]) F8 hl _ ?_
    refine own_29 F _ k (by rw [gI_sI, if_neg (by omega), gI_sI, if_neg (by omega), gI_sI, if_neg (by omega), X15]) F8 hk _ ?_
    generalize hV : sI (sI (sI (sI X 5 (ix l) 1) 6 (ix l) 1) 8 (ix l) 0) 8 (ix k) 0 = V
    have vc : ∀ c j, c ≠ 5 → c ≠ 6 → c ≠ 8 → gI V c j = gI X c j := fun c j a b d => by subst hV; rw [gI_sI, if_neg (by omega), gI_sI, if_neg (by omega), gI_sI, if_neg (by omega), gI_sI, if_neg (by omega)]
    have v5 : ∀ j, gI V 5 j = if j = ix l then 1 else gI u 5 j := fun j => by subst hV; rw [gI_sI, if_neg (by omega), gI_sI, if_neg (by omega), gI_sI, if_neg (by omega), gI_sI, Xc 5 _ (by decide)]; simp
    have v6 : ∀ j, gI V 6 j = if j = ix l then 1 else gI u 6 j := fun j => by subst hV; rw [gI_sI, if_neg (by omega), gI_sI, if_neg (by omega), gI_sI, gI_sI, if_neg (show ¬ (6 = 5 ∧ j = ix l) by omega), Xc 6 _ (by decide)]; simp
    have v8 : ∀ j, j < F → gI V 8 j = 0 := fun j hj => by
      subst hV; rw [gI_sI]
      by_cases z : j = ix k
      · rw [if_pos ⟨rfl, z⟩]
      · rw [if_neg (fun q => z q.2), gI_sI]
        by_cases z' : j = ix l
        · rw [if_pos ⟨rfl, z'⟩]
        · rw [if_neg (fun q => z' q.2), gI_sI, if_neg (by omega), gI_sI, if_neg (by omega), Xc 8 _ (by decide), u8, if_neg z', t8, if_neg z, o8 j hj]
    clear hV
    refine fin V u m' l Ju hl f4 f7 (fun w hw => by rw [vc 3 _ (by decide) (by decide) (by decide), X3 w hw]) (fun j hj => by rw [vc 3 _ (by decide) (by decide) (by decide), X3' j hj]) (by rw [v5, if_pos rfl]; decide) (fun j hj => by rw [v5, if_neg hj]) (by rw [v6, if_pos rfl]; decide) (fun j hj => by rw [v6, if_neg hj]) (fun c j hc => by rw [vc c j (by omega) (by omega) (by omega), Xc c j (by omega)]) v8 (fun j hj jl j0 => uv j hj jl j0) (fun c j hc => ⟨by rw [vc c j (by omega) (by omega) (by omega), Xc c j (by omega), uc c j hc, tc c j hc], by rw [uc c j hc, tc c j hc]⟩)
/-- sync -/
theorem own_11 (B F P : Nat) (L : Nat → Nat → Int32) (s : St) (O : own_O B F P L s) (Q : St → Prop) (h : ∀ t, own_O B F P L t → (∀ j, j < 32 → gI t 2 j = 1) → (∀ c j, c = 13 ∨ c = 14 ∨ c = 15 → gI t c j = gI s c j) → Q t) : calV PP 11 16 [.ref 0] s Q := by
  obtain ⟨⟨n, J⟩, o8, ov⟩ := O
  obtain ⟨c14, c15, c16, B8, B32, F2, F8, P1, P4⟩ := J.1
  apply c11_in
  refine loop_up (F := fun i => ∀ u n', own_J B F P L u n' → own_T s u → (∀ l, l < ix i → l < F → gI u 7 l ≠ 0 ∨ gI u 6 l = 0 ∨ (gI u 4 l).toInt < 0) → wpcV PP 11 cm11 16 2 [some (.ref 0), some (.int i), none] [] u Q) F (by omega) (fun i i0 i1 e ih u n' Ju Tu ud => ?_) (fun i hi u n' Ju Tu ud => ?_) 0 (by decide) (by simp) s n J (own_T_rfl s) (fun l hl => absurd hl (by simp [ix]))
  · have xi := ix_int i0
    have xj := ix_int (i := i + 1) (by omega)
    have ib : inb 8 i := ⟨i0, by show _ < (8 : Int); omega⟩
    have u15 : (gI u 0 15).toInt = F := Ju.1.2.1
    have nx : ∀ v n'', own_J B F P L v n'' → own_T u v → (gI v 7 (ix i) ≠ 0 ∨ gI v 6 (ix i) = 0 ∨ (gI v 4 (ix i)).toInt < 0) → wpcV PP 11 cm11 16 65 [some (.ref 0), some (.int i), none] [] v Q := by
      intro v n'' Jv Tv vd
      refine c11_65 _ _ _ (ih v n'' Jv (own_T_tr Tu Tv) fun l hl lF => ?_)
      by_cases z : l = ix i
      · rw [z]; exact vd
      · rcases ud l (by omega) lF with q | q | q
        · exact ((Tv.2 l).2.1 (Or.inl q)).imp id Or.inl
        · exact ((Tv.2 l).2.1 (Or.inr q)).imp id Or.inl
        · exact Or.inr (Or.inr (by rw [Tv.1 4 l (by omega)]; exact q))
    refine c11_2 _ _ _ ⟨fun _ => ⟨ib, ib, fun a => nx u n' Ju (own_T_rfl u) (Or.inr (Or.inl a)), fun a => ⟨ib, fun b => ?_, fun b => ⟨ib, fun c => ⟨fun d => nx u n' Ju (own_T_rfl u) (Or.inr (Or.inr (by rw [i32_lt] at d; simpa using d))), fun d => ?_⟩, fun c => nx u n' Ju (own_T_rfl u) (Or.inl c)⟩⟩⟩, fun q => absurd (by rw [i32_lt, u15]; exact i1) q⟩
    · refine nx u n' Ju (own_T_rfl u) (Or.inr (Or.inr ?_))
      have s4 : (gI s 4 (ix i)).toInt = (gI u 4 (ix i)).toInt := by rw [Tu.1 4 _ (by omega)]
      have : ¬ 0 ≤ (gI s 4 (ix i)).toInt := fun q => (Tu.2 (ix i)).1 (ov (ix i) (by omega) q) b
      omega
    · rw [i32_lt] at d; simp at d
      have rng := (Ju.2.2.2.2.2.1.1 (ix i) (by omega)).resolve_left (by omega)
      refine own_36 B F P L u n' i _ 1 Ju ⟨i0, i1⟩ rng rfl c (Or.inr ⟨rfl, b⟩) _ fun t Jt tc => ⟨fun q => absurd q (by decide), fun _ => ⟨ib, nx _ _ Jt ⟨fun c j hc => ?_, fun l => ?_⟩ (Or.inl (by rw [gI_sI, if_pos ⟨rfl, rfl⟩]; decide))⟩⟩
      · rw [gI_sI, if_neg (by omega), tc c j (by omega) (by omega) (by omega) (by omega)]
      · have e5 : gI (sI t 7 (ix i) 1) 5 l = gI u 5 l := by rw [gI_sI, if_neg (by omega), tc 5 l (by decide) (by decide) (by decide) (by omega)]
        have e6 : gI (sI t 7 (ix i) 1) 6 l = gI u 6 l := by rw [gI_sI, if_neg (by omega), tc 6 l (by decide) (by decide) (by decide) (by omega)]
        by_cases z : l = ix i
        · subst z
          have e7 : gI (sI t 7 (ix i) 1) 7 (ix i) = 1 := by rw [gI_sI, if_pos ⟨rfl, rfl⟩]
          rw [e5, e6, e7]
          exact ⟨id, fun _ => Or.inl (by decide), fun p => absurd c p⟩
        · have e7 : gI (sI t 7 (ix i) 1) 7 l = gI u 7 l := by rw [gI_sI, if_neg (fun q => z q.2), tc 7 l (by decide) (by decide) (by decide) (by omega)]
          rw [e5, e6, e7]
          exact ⟨id, id, fun p q => absurd q p⟩
  · have xi := ix_int (i := i) (by omega)
    have u15 : (gI u 0 15).toInt = F := Ju.1.2.1
    refine c11_2 _ _ _ ⟨fun q => absurd q (by rw [i32_lt, u15]; omega), fun _ => ?_⟩
    replace ud := fun l (hl : l < F) => ud l (by omega) hl
    clear hi xi
    -- the drain, then the marks
    have fin : ∀ v, own_J B F P L v 0 → own_T u v → wpcV PP 11 cm11 16 77 [some (.ref 0), some (.int (0 : Int32)), none] [] v Q := by
      intro v Jv Tv
      have Tsv := own_T_tr Tu Tv
      have clean : ∀ b, b < B → ∀ w, w < 4 → gI v 1 (4 * b + w) = L b w := by
        intro b hb w hw
        have xb : ix (Int32.ofNat b) = b := by
          have e : (Int32.ofNat b).toInt = b := Int32.toInt_ofNat_of_lt (by omega)
          have := ix_int (i := Int32.ofNat b) (by omega); omega
        have tb : (Int32.ofNat b).toInt = b := Int32.toInt_ofNat_of_lt (by omega)
        have A := Jv.2.2.2.2.2.2.1 (Int32.ofNat b) (by omega) (by omega) w hw
        rw [xb] at A
        by_cases z : ∃ k, k < F ∧ gI v 4 k = Int32.ofNat b
        · obtain ⟨k, kF, k4⟩ := z
          have k0 : 0 ≤ (gI v 4 k).toInt := by rw [k4]; omega
          have v5 : gI v 5 k ≠ 0 := (Tsv.2 k).1 (ov k kF (by rw [← Tsv.1 4 k (by omega)]; exact k0))
          have v7 : gI v 7 k = 0 := Classical.byContradiction fun q => by
            have := own_cb_pos (s := v) kF q
            have := Jv.2.2.1; omega
          have v6 : gI v 6 k = 0 := by
            rcases ud k kF with q | q | q
            · exact ((Tv.2 k).2.1 (Or.inl q)).resolve_left (fun q => q v7)
            · exact ((Tv.2 k).2.1 (Or.inr q)).resolve_left (fun q => q v7)
            · rw [Tv.1 4 k (by omega)] at k0; omega
          have a := A.1 k kF k4 v5
          have c := Jv.2.2.2.2.2.1.2.2 k kF k0 v5 v6 w hw
          rw [k4, xb] at c
          rw [← a, c]
        · exact A.2 fun k hk e => absurd ⟨k, hk, e⟩ z
      refine loop_up (F := fun i => ∀ t, own_J B F P L t 0 → (∀ c j, c ≠ 2 → gI t c j = gI v c j) → (∀ j, j < ix i → gI t 2 j = 1) → wpcV PP 11 cm11 16 77 [some (.ref 0), some (.int i), none] [] t Q) 32 (by decide) (fun i i0 i1 e ih t Jt tc t2 => ?_) (fun i hi t Jt tc t2 => ?_) 0 (by decide) (by decide) v Jv (fun _ _ _ => rfl) (fun j hj => absurd hj (by simp [ix]))
      · have xi := ix_int i0
        have xj := ix_int (i := i + 1) (by omega)
        refine c11_77 _ _ _ ⟨fun _ => ⟨⟨i0, i1⟩, ih _ (own_know Jt fun hb w hw => by rw [tc 1 _ (by decide), clean _ hb w hw]) (fun c j a => by rw [gI_sI, if_neg (fun q => a q.1), tc c j a]) fun j hj => ?_⟩, fun q => absurd (by rw [i32_lt]; exact i1) q⟩
        rw [gI_sI]
        by_cases z : j = ix i
        · rw [if_pos ⟨rfl, z⟩]
        · rw [if_neg (fun q => z q.2)]; exact t2 j (by omega)
      · have xi := ix_int (i := i) (by omega)
        refine c11_77 _ _ _ ⟨fun q => absurd q (by rw [i32_lt, hi]; decide), fun _ => h t ⟨⟨0, Jt⟩, fun l hl => ?_, fun l hl l0 => ?_⟩ (fun j hj => t2 j (by omega)) (fun c j hc => ?_)⟩
        · rw [tc 8 _ (by decide), Tsv.1 8 _ (by omega), o8 l hl]
        · rw [tc 4 _ (by decide), Tsv.1 4 _ (by omega)] at l0
          rw [tc 5 _ (by decide)]; exact (Tsv.2 l).1 (ov l hl l0)
        · rw [tc c j (by omega), Tsv.1 c j (by omega)]
    have n8 : n' ≤ 8 := by have := own_cb_le u F; have := Ju.2.2.1; omega
    apply c37_in
    have dr : ∀ (m : Nat) (i : Int32) (v : St), 0 ≤ i.toInt → i.toInt + m < 60 → own_J B F P L v m → own_T u v → wpcV PP 37 cm37 16 2 [some (.ref 0), some (.int i)] [] v (fun s685 => wpcV PP 11 cm11 16 77 [some (.ref 0), some (.int (0 : Int32)), none] [] s685 Q) := by
      intro m
      induction m with
      | zero =>
        intro i v i0 i1 Jv Tv
        refine c37_2 _ _ _ ⟨fun _ => own_40 B F P L v 0 Jv _ (fun _ => ⟨fun _ => fin v Jv Tv, fun q => absurd rfl q⟩) fun t k q => absurd rfl q, fun q => absurd (by rw [i32_lt]; simp; omega) q⟩
      | succ m ih =>
        intro i v i0 i1 Jv Tv
        have e : (i + 1).toInt = i.toInt + 1 := by rw [i32_add] <;> simp <;> omega
        refine c37_2 _ _ _ ⟨fun _ => own_40 B F P L v _ Jv _ (fun q => absurd q (by omega)) fun t k _ _ Jt St a1 a2 a3 a4 a5 => ⟨fun q => absurd q (by decide), fun _ => ih (i + 1) t (by omega) (by omega) Jt (own_T_tr Tv (own_40T St a1 a2 a3 a4 a5))⟩, fun q => absurd (by rw [i32_lt]; simp; omega) q⟩
    exact dr n' 0 u (by decide) (by show (0 : Int) + _ < _; omega) Ju (own_T_rfl u)

/-- syncBlock -/
theorem own_10 (B F P : Nat) (L : Nat → Nat → Int32) (s : St) (b : Int32) (O : own_O B F P L s) (Q : Int32 → St → Prop) (hb : ¬ (0 ≤ b.toInt ∧ b.toInt < B) → Q (-3) s)
    (h : (0 ≤ b.toInt ∧ b.toInt < B) → ∀ t, own_O B F P L t → (∀ j, gI t 2 j = if j = ix b then 1 else gI s 2 j) → (∀ c j, c = 13 ∨ c = 14 ∨ c = 15 → gI t c j = gI s c j) → Q 0 t) : calI PP 10 16 [.ref 0, .int b] s Q := by
  obtain ⟨⟨n, J⟩, o8, ov⟩ := O
  obtain ⟨c14, c15, c16, B8, B32, F2, F8, P1, P4⟩ := J.1
  apply c10_in
  refine own_bb B s b c14 _ ?_
  by_cases yb : 0 ≤ b.toInt ∧ b.toInt < B
  rotate_left
  · rw [if_neg yb]; exact ⟨fun q => absurd q (by decide), fun _ => hb yb⟩
  rw [if_pos yb]
  refine ⟨fun _ => ?_, fun q => absurd rfl q⟩
  have xb := ix_int yb.1
  have bi : inb 32 b := ⟨yb.1, by show _ < (32 : Int); omega⟩
  have fin : ∀ t m, own_J B F P L t m → (∀ w, w < 4 → gI t 1 (4 * ix b + w) = L (ix b) w) → (∀ k, k < F → gI t 8 k = 0) → (∀ k, k < F → 0 ≤ (gI t 4 k).toInt → gI t 5 k ≠ 0) → (∀ c j, c = 2 ∨ c = 13 ∨ c = 14 ∨ c = 15 → gI t c j = gI s c j) → wpcI PP 10 cm10 16 77 [some (.ref 0), some (.int b), none] [] t Q := by
    intro t m Jt td t8 tv tc
    have oc : ∀ c j, c ≠ 2 → gI (sI t 2 (ix b) 1) c j = gI t c j := fun c j a => by rw [gI_sI, if_neg (fun q => a q.1)]
    refine c10_77 _ _ _ ⟨bi, h yb _ ⟨⟨m, own_know Jt (fun _ => td)⟩, fun k hk => by rw [oc 8 _ (by decide)]; exact t8 k hk, fun k hk k0 => ?_⟩ (fun j => ?_) (fun c j hc => by rw [oc c j (by omega), tc c j (by omega)])⟩
    · rw [oc 4 _ (by decide)] at k0; rw [oc 5 _ (by decide)]; exact tv k hk k0
    · rw [gI_sI]
      by_cases z : j = ix b
      · rw [if_pos ⟨rfl, z⟩, if_pos z]
      · rw [if_neg (fun q => z q.2), if_neg z, tc 2 j (by omega)]
  refine own_31 F s b c15 F8 _ (fun k k0 k1 e4 => ?_) (fun nf => ?_)
  · have xk := ix_int k0
    have kb : inb 8 k := ⟨k0, by show _ < (8 : Int); omega⟩
    refine ⟨fun q => absurd q (by rw [i32_lt]; simp; omega), fun _ => ?_⟩
    refine own_35 B F P L s n (-1) k J ⟨k0, k1⟩ _ fun t m Jt Tt t7 => ?_
    have t4 : gI t 4 (ix k) = b := by rw [Tt.1 4 _ (by omega), e4]
    have t5 : gI t 5 (ix k) ≠ 0 := (Tt.2 _).1 (ov (ix k) (by omega) (by rw [e4]; exact yb.1))
    -- the second wait
    have go : ∀ u m', own_J B F P L u m' → own_S s u → (∀ l, gI s 5 l ≠ 0 → gI u 5 l ≠ 0) → (gI u 7 (ix k) ≠ 0 ∨ gI u 6 (ix k) = 0) → wpcI PP 10 cm10 16 71 [some (.ref 0), some (.int b), some (.int k)] [] u Q := by
      intro u m' Ju Su u5 ud
      apply c10_71
      refine own_35 B F P L u m' (-1) k Ju ⟨k0, k1⟩ _ fun v m'' Jv Tv v7 => ?_
      have vS : own_S s v := fun c j hc => by rw [Tv.1 c j hc, Su c j hc]
      have v6 : gI v 6 (ix k) = 0 := ((Tv.2 (ix k)).2.1 ud).resolve_left (fun q => q v7)
      have v5 : ∀ l, gI s 5 l ≠ 0 → gI v 5 l ≠ 0 := fun l hl => (Tv.2 l).1 (u5 l hl)
      have v4 : gI v 4 (ix k) = b := by rw [vS 4 _ (by omega), e4]
      have v5k : gI v 5 (ix k) ≠ 0 := v5 _ (ov (ix k) (by omega) (by rw [e4]; exact yb.1))
      refine fin v m'' Jv (fun w hw => ?_) (fun l hl => by rw [vS 8 l (by omega), o8 l hl]) (fun l hl l0 => ?_) (fun c j hc => vS c j (by omega))
      · have a := (Jv.2.2.2.2.2.2.1 b yb.1 yb.2 w hw).1 (ix k) (by omega) v4 v5k
        have c := Jv.2.2.2.2.2.1.2.2 (ix k) (by omega) (by rw [v4]; exact yb.1) v5k v6 w hw
        rw [v4] at c; rw [← a, c]
      · rw [vS 4 l (by omega)] at l0; exact v5 l (ov l hl l0)
    refine ⟨kb, fun d0 => go t m Jt Tt.1 (fun l => (Tt.2 l).1) (Or.inr d0), fun d1 => ⟨kb, fun q => absurd q t5, fun _ => ⟨kb, fun _ => ?_, fun q => absurd t7 q⟩⟩⟩
    refine own_36 B F P L t m k b 1 Jt ⟨k0, k1⟩ yb t4 t7 (Or.inr ⟨rfl, t5⟩) _ fun u Ju uc => ⟨fun q => absurd q (by decide), fun _ => ⟨kb, go _ (m + 1) Ju (fun c j hc => ?_) (fun l hl => ?_) (Or.inl (by rw [gI_sI, if_pos ⟨rfl, rfl⟩]; decide))⟩⟩
    · rw [gI_sI, if_neg (by omega), uc c j (by omega) (by omega) (by omega) (by omega), Tt.1 c j hc]
    · rw [gI_sI, if_neg (by omega), uc 5 l (by decide) (by decide) (by decide) (by omega)]; exact (Tt.2 l).1 hl
  · refine ⟨fun _ => fin s n J (fun w hw => ?_) o8 ov (fun _ _ _ => rfl), fun q => absurd (by decide) q⟩
    exact (J.2.2.2.2.2.2.1 b yb.1 yb.2 w hw).2 fun k hk e => absurd e (nf k hk)

theorem own_m16 (v : Int32) : (v &&& 65535) ≠ -1 := by
  have := Jvm.Kit.i32_mask v 65535 (k := 16) (by decide) (by decide)
  intro q
  rw [q] at this
  have e : ((-1 : Int32)).toInt = -1 := by decide
  rw [e] at this
  omega
def own_gd (L : Nat → Nat → Int32) : Prop := ∀ b w, L b w ≠ -1
theorem own_gd_up {L : Nat → Nat → Int32} (h : own_gd L) (b w : Nat) (v : Int32) : own_gd (own_up L b w (v &&& 65535)) := fun b' w' => by
  unfold own_up; split
  · exact own_m16 v
  · exact h _ _
theorem own_gd_fl {L : Nat → Nat → Int32} (h : own_gd L) (b : Nat) (v : Int32) : own_gd (own_fl L b fun _ => v &&& 65535) := fun b' w' => by
  unfold own_fl; split
  · exact own_m16 v
  · exact h _ _
theorem own_gd_cp {L : Nat → Nat → Int32} (h : own_gd L) (a b : Nat) : own_gd (own_fl L b (L a)) := fun b' w' => by
  unfold own_fl; split
  · exact h _ _
  · exact h _ _
theorem own_lenN {N : Nat} (hN : (N : Int) ≤ (260 : Int32).toInt) : (Int32.ofNat N).toInt = N := by
  have e : (260 : Int32).toInt = 260 := by decide
  exact Int32.toInt_ofNat_of_lt (by omega)

/-! bits of ints and longs -/
def own_bt (x : Int32) (j : Nat) : Bool := x.toBitVec.getLsbD j
def own_bl (x : Int64) (j : Nat) : Bool := x.toBitVec.getLsbD j
theorem own_i32 (i : Int32) (h0 : 0 ≤ i.toInt) : i = Int32.ofNat (ix i) := by
  have k := ix_int h0
  have r := rng32 i
  rw [i32_eq, Int32.toInt_ofNat_of_lt (by omega)]; omega
theorem own_sh31 (i : Int32) (h0 : 0 ≤ i.toInt) (h1 : i.toInt < 32) : (i &&& 31).toBitVec.smod 32 = BitVec.ofNat 32 (ix i) ∧ ix i < 32 := by
  have k := ix_int h0
  have hn : ix i < 32 := by omega
  have key : ∀ n : Fin 32, (Int32.ofNat n.val &&& 31).toBitVec.smod 32 = BitVec.ofNat 32 n.val := by decide
  have := key ⟨ix i, hn⟩
  rw [← own_i32 i h0] at this
  exact ⟨this, hn⟩
theorem own_bt_one (y : Int32) : (y &&& 1 = 0) ↔ own_bt y 0 = false := by
  unfold own_bt
  constructor
  · intro h
    have := congrArg (fun z => z.toBitVec.getLsbD 0) h
    simpa using this
  · intro h
    apply Int32.toBitVec_inj.mp
    apply BitVec.eq_of_getLsbD_eq
    intro j hj
    rw [Int32.toBitVec_and, BitVec.getLsbD_and]
    have e : (1 : Int32).toBitVec = 1#32 := by decide
    have z : (0 : Int32).toBitVec = 0#32 := by decide
    rw [e, z, BitVec.getLsbD_one]
    by_cases q : j = 0
    · subst q; rw [h, Bool.false_and]; simp
    · simp [q]
theorem own_bt_sar (x i : Int32) (h0 : 0 ≤ i.toInt) (h1 : i.toInt < 32) : own_bt (x >>> (i &&& 31)) 0 = own_bt x (ix i) := by
  obtain ⟨e, hn⟩ := own_sh31 i h0 h1
  unfold own_bt
  rw [Int32.toBitVec_shiftRight, e, BitVec.sshiftRight_eq', BitVec.getLsbD_sshiftRight]
  have e2 : (BitVec.ofNat 32 (ix i)).toNat = ix i := by simp; omega
  rw [e2]; simp [hn]
theorem own_bt_shr (x i : Int32) (h0 : 0 ≤ i.toInt) (h1 : i.toInt < 32) : ((x >>> (i &&& 31)) &&& 1 = 0) ↔ own_bt x (ix i) = false := by
  rw [own_bt_one, own_bt_sar x i h0 h1]
theorem own_bt_shl (i : Int32) (h0 : 0 ≤ i.toInt) (h1 : i.toInt < 32) (j : Nat) (hj : j < 32) : own_bt (1 <<< (i &&& 31)) j = decide (j = ix i) := by
  obtain ⟨e, hn⟩ := own_sh31 i h0 h1
  unfold own_bt
  have e2 : (BitVec.ofNat 32 (ix i)).toNat = ix i := by simp; omega
  have e1 : (1 : Int32).toBitVec = 1#32 := by decide
  rw [Int32.toBitVec_shiftLeft, e, BitVec.shiftLeft_eq', e2, BitVec.getLsbD_shiftLeft, e1, BitVec.getLsbD_one]
  by_cases q : j = ix i
  · subst q; simp [hj]
  · by_cases l : j < ix i
    · simp [l, q]
    · have : ¬ (j - ix i = 0) := by omega
      simp [q, this]
theorem own_bt_or (x i : Int32) (h0 : 0 ≤ i.toInt) (h1 : i.toInt < 32) (j : Nat) (hj : j < 32) : own_bt (x ||| (1 <<< (i &&& 31))) j = (own_bt x j || decide (j = ix i)) := by
  rw [← own_bt_shl i h0 h1 j hj]
  simp [own_bt]
theorem own_bt_neg (x : Int32) (j : Nat) (hj : j < 32) : own_bt (x ^^^ (-1)) j = !own_bt x j := by
  have e : (-1 : Int32).toBitVec = BitVec.allOnes 32 := by decide
  simp [own_bt, e, hj]
theorem own_bt_and (x y : Int32) (j : Nat) : own_bt (x &&& y) j = (own_bt x j && own_bt y j) := by simp [own_bt]
theorem own_bt_clr (x i : Int32) (h0 : 0 ≤ i.toInt) (h1 : i.toInt < 32) (j : Nat) (hj : j < 32) : own_bt (x &&& ((1 <<< (i &&& 31)) ^^^ (-1))) j = (own_bt x j && !decide (j = ix i)) := by
  rw [own_bt_and, own_bt_neg _ _ hj, own_bt_shl i h0 h1 j hj]
theorem own_bt_zero (x : Int32) : x = 0 ↔ ∀ j, j < 32 → own_bt x j = false := by
  constructor
  · intro h j _; rw [h]; simp [own_bt]
  · intro h
    apply Int32.toBitVec_inj.mp
    apply BitVec.eq_of_getLsbD_eq
    intro j hj
    have := h j hj
    have z : (0 : Int32).toBitVec = 0#32 := by decide
    rw [z]; simpa [own_bt] using this
theorem own_bt_0 (j : Nat) : own_bt 0 j = false := by simp [own_bt]
theorem own_bt_tst (x i : Int32) (h0 : 0 ≤ i.toInt) (h1 : i.toInt < 32) : (x &&& (1 <<< (i &&& 31)) = 0) ↔ own_bt x (ix i) = false := by
  have k := ix_int h0
  rw [own_bt_zero]
  constructor
  · intro h
    have := h (ix i) (by omega)
    rw [own_bt_and, own_bt_shl i h0 h1 _ (by omega)] at this
    simpa using this
  · intro h j hj
    rw [own_bt_and, own_bt_shl i h0 h1 _ hj]
    by_cases z : j = ix i
    · rw [z, h]; rfl
    · simp [z]
theorem own_bt_ext {x y : Int32} (h : ∀ j, j < 32 → own_bt x j = own_bt y j) : x = y :=
  Int32.toBitVec_inj.mp (BitVec.eq_of_getLsbD_eq h)
theorem own_bt_s16 (y : Int32) (j : Nat) (hj : j < 16) : own_bt (y <<< ((16 : Int32) &&& 31)) j = false := by
  have e : ((16 : Int32) &&& 31).toBitVec.smod 32 = 16#32 := by decide
  have e2 : (16#32).toNat = 16 := by decide
  unfold own_bt
  rw [Int32.toBitVec_shiftLeft, e, BitVec.shiftLeft_eq', e2, BitVec.getLsbD_shiftLeft]
  simp [hj]
theorem own_bt_15 (j : Nat) (hj : j < 32) : own_bt 15 j = decide (j < 4) := by
  have b : ∀ j : Fin 32, own_bt 15 j.val = decide (j.val < 4) := by decide
  exact b ⟨j, hj⟩
theorem own_bt_64k (j : Nat) (hj : j < 32) : own_bt 65535 j = decide (j < 16) := by
  have b : ∀ j : Fin 32, own_bt 65535 j.val = decide (j.val < 16) := by decide
  exact b ⟨j, hj⟩
/-! nibbles of a long -/
theorem own_sh63 (i : Int32) (h0 : 0 ≤ i.toInt) (h1 : i.toInt < 16) : ((4 * i).toInt64 &&& 63).toBitVec.smod 64 = BitVec.ofNat 64 (4 * ix i) ∧ ((4 * i).toInt64.toUInt64 &&& Int64.toUInt64 63).toBitVec % 64 = BitVec.ofNat 64 (4 * ix i) ∧ ix i < 16 := by
  have k := ix_int h0
  have hn : ix i < 16 := by omega
  have key : ∀ n : Fin 16, ((4 * Int32.ofNat n.val).toInt64 &&& 63).toBitVec.smod 64 = BitVec.ofNat 64 (4 * n.val) ∧ ((4 * Int32.ofNat n.val).toInt64.toUInt64 &&& Int64.toUInt64 63).toBitVec % 64 = BitVec.ofNat 64 (4 * n.val) := by decide
  have := key ⟨ix i, hn⟩
  rw [← own_i32 i h0] at this
  exact ⟨this.1, this.2, hn⟩
def own_nb (x : Int64) (i : Int32) : Int64 := Jvm.Free.XT.ushrL x (4 * i) &&& 15
theorem own_nb_bit (x : Int64) (i : Int32) (h0 : 0 ≤ i.toInt) (h1 : i.toInt < 16) (j : Nat) (hj : j < 64) : own_bl (own_nb x i) j = (own_bl x (4 * ix i + j) && decide (j < 4)) := by
  obtain ⟨_, e, hn⟩ := own_sh63 i h0 h1
  have e2 : (BitVec.ofNat 64 (4 * ix i)).toNat = 4 * ix i := by simp; omega
  have f : (15 : Int64).toBitVec = 15#64 := by decide
  have b15 : ∀ j : Fin 64, (15#64).getLsbD j.val = decide (j.val < 4) := by decide
  have c15 := b15 ⟨j, hj⟩
  simp only at c15
  unfold own_bl own_nb Jvm.Free.XT.ushrL
  rw [Int64.toBitVec_and, BitVec.getLsbD_and, f, c15]
  have g : ((x.toUInt64 >>> ((4 * i).toInt64.toUInt64 &&& Int64.toUInt64 63)).toInt64).toBitVec = x.toBitVec >>> (4 * ix i) := by
    show (x.toUInt64 >>> ((4 * i).toInt64.toUInt64 &&& Int64.toUInt64 63)).toBitVec = _
    rw [UInt64.toBitVec_shiftRight, e, BitVec.ushiftRight_eq', e2]
    rfl
  rw [g, BitVec.getLsbD_ushiftRight]
theorem own_bl_ext {x y : Int64} (h : ∀ j, j < 64 → own_bl x j = own_bl y j) : x = y :=
  Int64.toBitVec_inj.mp (BitVec.eq_of_getLsbD_eq h)
theorem own_bl_sml (v : Int32) (h0 : 0 ≤ v.toInt) (h1 : v.toInt < 16) (j : Nat) : 4 ≤ j → own_bl (Int32.toInt64 v) j = false := by
  intro hj
  have k := ix_int h0
  have hn : ix v < 16 := by omega
  have key : ∀ n : Fin 16, (Int32.ofNat n.val).toInt64.toBitVec = BitVec.ofNat 64 n.val := by decide
  have := key ⟨ix v, hn⟩
  rw [← own_i32 v h0] at this
  unfold own_bl
  rw [this]
  simp only [BitVec.getLsbD_ofNat]
  have : (ix v).testBit j = false := Nat.testBit_lt_two_pow (Nat.lt_of_lt_of_le hn (by
    have : 2 ^ 4 ≤ 2 ^ j := Nat.pow_le_pow_right (by decide) hj
    omega))
  simp [this]
/-- nibble i set to v -/
def own_ns4 (x : Int64) (i v : Int32) : Int64 := (x &&& (((15 : Int64) <<< ((4 * i).toInt64 &&& 63)) ^^^ (-1 : Int64))) ||| (Int32.toInt64 v <<< ((4 * i).toInt64 &&& 63))
theorem own_ns4_bit (x : Int64) (i v : Int32) (h0 : 0 ≤ i.toInt) (h1 : i.toInt < 16) (v0 : 0 ≤ v.toInt) (v1 : v.toInt < 16) (j : Nat) (hj : j < 64) : own_bl (own_ns4 x i v) j = if 4 * ix i ≤ j ∧ j < 4 * ix i + 4 then own_bl (Int32.toInt64 v) (j - 4 * ix i) else own_bl x j := by
  obtain ⟨e, _, hn⟩ := own_sh63 i h0 h1
  have e2 : (BitVec.ofNat 64 (4 * ix i)).toNat = 4 * ix i := by simp; omega
  have f : (15 : Int64).toBitVec = 15#64 := by decide
  have m1 : (-1 : Int64).toBitVec = BitVec.allOnes 64 := by decide
  have b15 : ∀ j : Nat, j < 64 → (15#64).getLsbD j = decide (j < 4) := fun j hj => by
    have b : ∀ j : Fin 64, (15#64).getLsbD j.val = decide (j.val < 4) := by decide
    exact b ⟨j, hj⟩
  have sml := own_bl_sml v v0 v1
  unfold own_bl at *
  unfold own_ns4
  rw [Int64.toBitVec_or, Int64.toBitVec_and, Int64.toBitVec_xor, Int64.toBitVec_shiftLeft, Int64.toBitVec_shiftLeft, e, BitVec.shiftLeft_eq', BitVec.shiftLeft_eq', e2, f, m1]
  rw [BitVec.getLsbD_or, BitVec.getLsbD_and, BitVec.getLsbD_xor, BitVec.getLsbD_shiftLeft, BitVec.getLsbD_shiftLeft, BitVec.getLsbD_allOnes, b15 _ (by omega)]
  by_cases l : j < 4 * ix i
  · rw [if_neg (by omega)]; simp [l, hj]
  · by_cases u : j < 4 * ix i + 4
    · rw [if_pos (by omega)]
      have : j - 4 * ix i < 4 := by omega
      simp [l, hj, this]
    · rw [if_neg (by omega), sml _ (by omega)]
      have : ¬ (j - 4 * ix i < 4) := by omega
      simp [hj, this]
theorem own_nb_set (x : Int64) (i v : Int32) (h0 : 0 ≤ i.toInt) (h1 : i.toInt < 16) (v0 : 0 ≤ v.toInt) (v1 : v.toInt < 16) (k : Int32) (k0 : 0 ≤ k.toInt) (k1 : k.toInt < 16) : own_nb (own_ns4 x i v) k = if k = i then Int32.toInt64 v else own_nb x k := by
  have ki := ix_int h0
  have kk := ix_int k0
  apply own_bl_ext
  intro j hj
  rw [own_nb_bit _ _ k0 k1 j hj]
  by_cases q : j < 4
  · rw [own_ns4_bit x i v h0 h1 v0 v1 _ (by omega)]
    by_cases z : k = i
    · rw [if_pos z]; subst z; rw [if_pos (by omega), Nat.add_sub_cancel_left]; simp [q]
    · rw [if_neg z, own_nb_bit _ _ k0 k1 j hj]
      rw [i32_eq] at z
      rw [if_neg (by omega)]
  · have : decide (j < 4) = false := by simp [q]
    rw [this, Bool.and_false]
    by_cases z : k = i
    · rw [if_pos z, own_bl_sml v v0 v1 j (by omega)]
    · rw [if_neg z, own_nb_bit _ _ k0 k1 j hj, this, Bool.and_false]

theorem own_v15 (d : Int32) : ((d &&& 15) ||| ((d >>> ((4 : Int32) &&& 31)) <<< ((16 : Int32) &&& 31))) &&& 65535 = d &&& 15 ∧ ((d &&& 15) ||| ((d >>> ((4 : Int32) &&& 31)) <<< ((16 : Int32) &&& 31))) &&& 15 = d &&& 15 := by
  generalize d >>> ((4 : Int32) &&& 31) = e
  have ob : ∀ x y : Int32, ∀ j, own_bt (x ||| y) j = (own_bt x j || own_bt y j) := fun x y j => by simp [own_bt]
  constructor
  · apply own_bt_ext
    intro j hj
    rw [own_bt_and, own_bt_64k j hj, ob, own_bt_and, own_bt_15 j hj]
    by_cases l : j < 16
    · rw [own_bt_s16 e j l]; simp [l]
    · have : ¬ j < 4 := by omega
      simp [l, this]
  · apply own_bt_ext
    intro j hj
    rw [own_bt_and, own_bt_15 j hj, ob, own_bt_and, own_bt_15 j hj]
    by_cases l : j < 4
    · rw [own_bt_s16 e j (by omega)]; simp [l]
    · simp [l]
theorem own_m15 (d : Int32) : 0 ≤ (d &&& 15).toInt ∧ (d &&& 15).toInt < 16 := by
  have := Jvm.Kit.i32_mask d 15 (k := 4) (by decide) (by decide)
  omega
theorem own_s15 (v : Int32) (h : 0 ≤ v.toInt ∧ v.toInt < 16) : v &&& 15 = v := by
  have := Jvm.Kit.i32_mask v 15 (k := 4) (by decide) (by decide)
  rw [i32_eq]; omega
/-- the nibble's number -/
theorem own_ni (b w : Int32) (hb : 0 ≤ b.toInt ∧ b.toInt < 8) (hw : 0 ≤ w.toInt ∧ w.toInt < 4) : ((b &&& 3) * 4 + w).toInt = b.toInt % 4 * 4 + w.toInt := by
  have m := Jvm.Kit.i32_mask b 3 (k := 2) (by decide) (by decide)
  have e4 : (4 : Int32).toInt = 4 := by decide
  have e1 : ((b &&& 3) * 4).toInt = (b &&& 3).toInt * 4 := by rw [i32_mul] <;> rw [e4] <;> omega
  rw [i32_add] <;> rw [e1] <;> omega
def own_gt (lo hi : Int64) (b w : Int32) : Int32 := Int64.toInt32 (own_nb (if b < 4 then lo else hi) ((b &&& 3) * 4 + w))
theorem own_t32 (v : Int32) : Int64.toInt32 (Int32.toInt64 v) = v := by
  have r := rng32 v
  rw [i32_eq, Int64.toInt_toInt32, Int32.toInt_toInt64]
  exact Int.bmod_eq_of_le (by omega) (by omega)
theorem own_gt_put (lo hi : Int64) (b w v : Int32) (hb : 0 ≤ b.toInt ∧ b.toInt < 8) (hw : 0 ≤ w.toInt ∧ w.toInt < 4) (hv : 0 ≤ v.toInt ∧ v.toInt < 16) (c x : Int32) (hc : 0 ≤ c.toInt ∧ c.toInt < 8) (hx : 0 ≤ x.toInt ∧ x.toInt < 4) : own_gt (if b < 4 then own_ns4 lo ((b &&& 3) * 4 + w) v else lo) (if b < 4 then hi else own_ns4 hi ((b &&& 3) * 4 + w) v) c x = if c = b ∧ x = w then v else own_gt lo hi c x := by
  have nb := own_ni b w hb hw
  have nc := own_ni c x hc hx
  have e4 : (4 : Int32).toInt = 4 := by decide
  have st := fun y => own_nb_set y ((b &&& 3) * 4 + w) v (by omega) (by omega) hv.1 hv.2 ((c &&& 3) * 4 + x) (by omega) (by omega)
  unfold own_gt
  by_cases l : b < 4
  · rw [if_pos l, if_pos l]
    rw [i32_lt, e4] at l
    by_cases m : c < 4
    · rw [if_pos m, if_pos m, st]
      rw [i32_lt, e4] at m
      by_cases z : c = b ∧ x = w
      · rw [if_pos z, z.1, z.2, if_pos rfl, own_t32]
      · rw [if_neg z, if_neg]
        intro q
        rw [i32_eq] at q
        exact z ⟨by rw [i32_eq]; omega, by rw [i32_eq]; omega⟩
    · rw [if_neg m, if_neg m]
      rw [i32_lt, e4] at m
      rw [if_neg]
      intro q
      have := q.1
      rw [i32_eq] at this
      omega
  · rw [if_neg l, if_neg l]
    rw [i32_lt, e4] at l
    by_cases m : c < 4
    · rw [if_pos m, if_pos m]
      rw [i32_lt, e4] at m
      rw [if_neg]
      intro q
      have := q.1
      rw [i32_eq] at this
      omega
    · rw [if_neg m, if_neg m, st]
      rw [i32_lt, e4] at m
      by_cases z : c = b ∧ x = w
      · rw [if_pos z, z.1, z.2, if_pos rfl, own_t32]
      · rw [if_neg z, if_neg]
        intro q
        rw [i32_eq] at q
        exact z ⟨by rw [i32_eq]; omega, by rw [i32_eq]; omega⟩
/-- the packed longs tell L -/
def own_LL (L : Nat → Nat → Int32) (lo hi : Int64) : Prop := ∀ b w : Int32, (0 ≤ b.toInt ∧ b.toInt < 8) → (0 ≤ w.toInt ∧ w.toInt < 4) → L (ix b) (ix w) = own_gt lo hi b w ∧ 0 ≤ (L (ix b) (ix w)).toInt ∧ (L (ix b) (ix w)).toInt < 16
theorem own_LL_put {L L' : Nat → Nat → Int32} {lo hi : Int64} (h : own_LL L lo hi) (b w v : Int32) (hb : 0 ≤ b.toInt ∧ b.toInt < 8) (hw : 0 ≤ w.toInt ∧ w.toInt < 4) (hv : 0 ≤ v.toInt ∧ v.toInt < 16) (hL : ∀ c x, c < 8 → x < 4 → L' c x = if c = ix b ∧ x = ix w then v else L c x) : own_LL L' (if b < 4 then own_ns4 lo ((b &&& 3) * 4 + w) v else lo) (if b < 4 then hi else own_ns4 hi ((b &&& 3) * 4 + w) v) := by
  intro c x hc hx
  have kc := ix_int hc.1
  have kx := ix_int hx.1
  obtain ⟨g1, g2⟩ := h c x hc hx
  rw [own_gt_put lo hi b w v hb hw hv c x hc hx, hL _ _ (by omega) (by omega)]
  by_cases z : c = b ∧ x = w
  · rw [if_pos z, if_pos ⟨by rw [z.1], by rw [z.2]⟩]; exact ⟨rfl, hv⟩
  · rw [if_neg z, if_neg (fun q => z ⟨(ix_inj hc.1 hb.1).mp q.1, (ix_inj hx.1 hw.1).mp q.2⟩)]
    exact ⟨g1, g2⟩
theorem own_LL_eq {L L' : Nat → Nat → Int32} {lo hi : Int64} (h : own_LL L lo hi) (e : ∀ c x, c < 8 → x < 4 → L' c x = L c x) : own_LL L' lo hi := by
  intro c x hc hx
  have kc := ix_int hc.1
  have kx := ix_int hx.1
  rw [e _ _ (by omega) (by omega)]
  exact h c x hc hx
theorem own_get (N : Nat) (sg : Nat → Int32) (s : St) (L : Nat → Nat → Int32) (lo hi : Int64) (h : own_LL L lo hi) (b w : Int32) (hb : 0 ≤ b.toInt ∧ b.toInt < 8) (hw : 0 ≤ w.toInt ∧ w.toInt < 4) (Q : Int32 → _ → Prop) (hq : Q (L (ix b) (ix w)) (W1 s)) : lalI PP QQ (some (N, sg)) 3 [.long lo, .long hi, .int b, .int w] (W1 s) Q := by
  apply l3W1_in
  intro m em
  rw [em, Int32.mul_comm]
  have := (h b w hb hw).1
  rw [this] at hq
  exact hq
theorem own_put' (N : Nat) (sg : Nat → Int32) (s : St) (x : Int64) (b w v : Int32) (Q : Int64 → _ → Prop) (hq : Q (own_ns4 x ((b &&& 3) * 4 + w) (v &&& 15)) (W1 s)) : lalL PP QQ (some (N, sg)) 4 [.long x, .int b, .int w, .int v] (W1 s) Q := by
  apply l4W1_in
  unfold own_ns4 at hq
  rw [Int32.mul_comm 4] at hq
  exact hq
abbrev own_T42 (N : Nat) (sg : Nat → Int32) (x2 : Int32) (x4 x6 : Int64) (x8 x9 : Int32) (s : St) : Prop := wplI PP QQ (some (N, sg)) 0 lm0 42 [some (.ref 0), none, some (.int x2), some (.ref 1), some (.long x4), none, some (.long x6), none, some (.int x8), some (.int x9), none, none, none, none, none, none, none, none, none, none] [] (W1 s) (fun v _ => v = 1)
abbrev own_T482 (N : Nat) (sg : Nat → Int32) (x2 : Int32) (x4 x6 : Int64) (x8 x9 : Int32) (s : St) : Prop := wplI PP QQ (some (N, sg)) 0 lm0 482 [some (.ref 0), none, some (.int x2), some (.ref 1), some (.long x4), none, some (.long x6), none, some (.int x8), some (.int x9), none, none, none, none, none, none, none, none, none, none] [] (W1 s) (fun v _ => v = 1)
def own_Kn (s : St) (x8 : Int32) : Prop := ∀ j, j < 8 → own_bt x8 j = true → gI s 2 j ≠ 0
/-- the check of the disk -/
theorem own_dk (N : Nat) (sg : Nat → Int32) (F P : Nat) (L : Nat → Nat → Int32) (s : St) (x2 : Int32) (x4 x6 : Int64) (x8 x9 : Int32) (O : own_O 8 F P L s) (hL : own_LL L x4 x6) (hk : own_Kn s x8) (nx : own_T42 N sg x2 x4 x6 x8 (x9 + 2) s) : own_T482 N sg x2 x4 x6 x8 x9 s := by
  apply l0_482
  refine loop_up (F := fun i => wplI PP QQ (some (N, sg)) 0 lm0 485 [some (.ref 0), none, some (.int x2), some (.ref 1), some (.long x4), none, some (.long x6), none, some (.int x8), some (.int x9), none, none, none, none, none, none, none, none, some (.int i), none] [] (W1 s) (fun v _ => v = 1)) 8 (by decide) (fun i i0 i1 e ih => ?_) (fun i hi => ?_) 0 (by decide) (by decide)
  · have ki := ix_int i0
    apply l0_485
    have nxt := l0_541 N sg x2 x4 x6 x8 x9 i _ (s := s) ih
    refine ⟨fun _ => ⟨fun _ => nxt, fun z => ?_⟩, fun q => absurd (by rw [i32_lt]; exact i1) q⟩
    rw [own_bt_tst x8 i i0 (by omega), Bool.not_eq_false] at z
    have kn := hk (ix i) (by omega) z
    refine loop_up (F := fun j => wplI PP QQ (some (N, sg)) 0 lm0 505 [some (.ref 0), none, some (.int x2), some (.ref 1), some (.long x4), none, some (.long x6), none, some (.int x8), some (.int x9), none, none, none, none, none, none, none, none, some (.int i), some (.int j)] [] (W1 s) (fun v _ => v = 1)) 4 (by decide) (fun j j0 j1 ej ihj => ?_) (fun j hj => ?_) 0 (by decide) (by decide)
    · apply l0_505
      refine ⟨fun _ => own_12 8 F P L s i j O _ ?_, fun q => absurd (by rw [i32_lt]; exact j1) q⟩
      rw [if_pos ⟨i0, i1⟩, if_pos ⟨j0, j1⟩, if_neg kn]
      exact own_get N sg s L x4 x6 hL i j ⟨i0, i1⟩ ⟨j0, j1⟩ _ ⟨s, rfl, fun _ => ihj, fun q => absurd rfl q⟩
    · exact l0_505 _ _ _ _ _ _ _ _ _ _ ⟨fun q => absurd q (by rw [i32_lt, hj]; decide), fun _ => nxt⟩
  · exact l0_485 _ _ _ _ _ _ _ _ _ ⟨fun q => absurd q (by rw [i32_lt, hi]; decide), fun _ => nx⟩
theorem own_cell (N : Nat) (sg : Nat → Int32) (hN : (Int32.ofNat N).toInt = N) (s : St) (a : Int32) (ha : 0 ≤ a.toInt) (Q : Int32 → _ → Prop) (h : ∀ v, Q v (W1 s)) : lalI PP QQ (some (N, sg)) 2 [.ref 0, .int a] (W1 s) Q := by
  apply l2r0W1_in
  refine ⟨fun q => ⟨⟨ha, ?_⟩, h _⟩, fun _ => h _⟩
  rw [i32_lt, hN] at q; exact q
theorem own_msk (x m : Int32) (k : Nat) (K : Int) (h1 : k < 32) (h2 : m.toBitVec.toNat = 2 ^ k - 1) (hK : (2 : Int) ^ k = K) : 0 ≤ (x &&& m).toInt ∧ (x &&& m).toInt < K := by
  have := Jvm.Kit.i32_mask x m (k := k) h1 h2
  rw [hK] at this
  have p : 0 < K := by rw [← hK]; exact Int.pow_pos (by decide)
  rw [this]
  exact ⟨Int.emod_nonneg _ (by omega), Int.emod_lt_of_pos _ p⟩
theorem law_ok (N : Nat) (sg : Nat → Int32) (hN : (N : Int) ≤ (260 : Int32).toInt) : lalI PP QQ (some (N, sg)) 0 [.ref 0] W0 (fun v _ => v = 1) := by
  have e260 : (260 : Int32).toInt = 260 := by decide
  have eN := own_lenN hN
  have e4 : (4 : Int32).toInt = 4 := by decide
  have key : ∀ (F P : Nat) (n : Nat) (i x2 : Int32) (L : Nat → Nat → Int32) (x4 x6 : Int64) (x8 : Int32) (s : St), 0 ≤ i.toInt → i.toInt + n = N + 3 → x2.toInt = P → 1 ≤ P → P ≤ 4 → own_O 8 F P L s → own_LL L x4 x6 → own_Kn s x8 → own_T42 N sg x2 x4 x6 x8 i s := by
    intro F P n
    induction n using Nat.strongRecOn with
    | _ n ih =>
    intro i x2 L x4 x6 x8 s i0 hn e2 P1 P4 O hL hk
    apply l0_42
    refine ⟨fun a => ?_, fun _ => rfl⟩
    rw [i32_lt, eN] at a
    have ei2 : (i + 2).toInt = i.toInt + 2 := by rw [i32_add] <;> simp <;> omega
    have ei1 : (i + 1).toInt = i.toInt + 1 := by rw [i32_add] <;> simp <;> omega
    have nx : ∀ L' y4 y6 y8 t, own_O 8 F P L' t → own_LL L' y4 y6 → own_Kn t y8 → own_T482 N sg x2 y4 y6 y8 i t := fun L' y4 y6 y8 t O' hL' hk' => own_dk N sg F P L' t x2 y4 y6 y8 i O' hL' hk' (ih (n - 2) (by omega) (i + 2) x2 L' y4 y6 y8 t (by omega) (by omega) e2 P1 P4 O' hL' hk')
    refine own_cell N sg eN s i i0 _ fun c => ⟨s, rfl, own_cell N sg eN s (i + 1) (by omega) _ fun d => ⟨s, rfl, ?_⟩⟩
    have hp : 0 ≤ (((Jvm.Free.XT.ushr c 3) &&& 3) % x2).toInt ∧ (((Jvm.Free.XT.ushr c 3) &&& 3) % x2).toInt < P := by
      have m := own_msk (Jvm.Free.XT.ushr c 3) 3 2 4 (by decide) (by decide) (by decide)
      rw [Int32.toInt_mod, Int.tmod_eq_emod_of_nonneg m.1, e2]
      exact ⟨Int.emod_nonneg _ (by omega), Int.emod_lt_of_pos _ (by omega)⟩
    have hb := own_msk (Jvm.Free.XT.ushr c 5) 7 3 8 (by decide) (by decide) (by decide)
    have hw := own_msk (Jvm.Free.XT.ushr c 8) 3 2 4 (by decide) (by decide) (by decide)
    have ht := own_msk (Jvm.Free.XT.ushr c 10) 7 3 8 (by decide) (by decide) (by decide)
    have hv := own_v15 d
    have hd := own_m15 d
    generalize ((Jvm.Free.XT.ushr c 3) &&& 3) % x2 = p at *
    generalize (Jvm.Free.XT.ushr c 5) &&& 7 = b at *
    generalize (Jvm.Free.XT.ushr c 8) &&& 3 = w at *
    generalize (Jvm.Free.XT.ushr c 10) &&& 7 = t at *
    generalize ((d &&& 15) ||| ((d >>> ((4 : Int32) &&& 31)) <<< ((16 : Int32) &&& 31))) = v at *
    have kb := ix_int hb.1
    have kw := ix_int hw.1
    have kt := ix_int ht.1
    have clr : ∀ (u : St) (z : Int32), (0 ≤ z.toInt ∧ z.toInt < 8) → (∀ j, gI u 2 j = if j = ix z then 0 else gI s 2 j) → own_Kn u (x8 &&& ((1 <<< (z &&& 31)) ^^^ (-1))) := by
      intro u z hz h2 j hj q
      rw [own_bt_clr x8 z hz.1 (by omega) j (by omega)] at q
      simp at q
      rw [h2, if_neg q.2]
      exact hk j hj q.1
    have rd : wplI PP QQ (some (N, sg)) 0 lm0 138 [some (.ref 0), none, some (.int x2), some (.ref 1), some (.long x4), none, some (.long x6), none, some (.int x8), some (.int i), none, none, none, some (.int p), some (.int b), some (.int w), none, none, none, none] [] (W1 s) (fun v _ => v = 1) := by
      apply l0_138
      refine own_5 8 F P L s p b w O _ (fun z => absurd hp z) (fun _ z => absurd hb z) (fun _ _ z => absurd hw z) fun _ _ _ t O' _ _ tc => ?_
      exact own_get N sg t L x4 x6 hL b w hb hw _ ⟨t, rfl, fun _ => nx L x4 x6 x8 t O' hL (fun j hj q => by rw [tc 2 j (by omega)]; exact hk j hj q), fun q => absurd rfl q⟩
    have wr : wplI PP QQ (some (N, sg)) 0 lm0 176 [some (.ref 0), none, some (.int x2), some (.ref 1), some (.long x4), none, some (.long x6), none, some (.int x8), some (.int i), none, none, none, some (.int p), some (.int b), some (.int w), none, some (.int v), none, none] [] (W1 s) (fun v _ => v = 1) := by
      apply l0_176
      refine own_6 8 F P L s p b w v O _ (fun z => absurd hp z) (fun _ z => absurd hb z) (fun _ _ z => absurd hw z) fun _ _ _ t O' h2 _ _ => ?_
      rw [hv.1] at O'
      have hp' := own_LL_put (L' := own_up L (ix b) (ix w) (d &&& 15)) hL b w (d &&& 15) hb hw hd (fun c x _ _ => rfl)
      refine ⟨fun l => own_put' N sg t x4 b w v _ ⟨t, rfl, l0_224 _ _ _ _ _ _ _ _ _ ?_⟩, fun l => own_put' N sg t x6 b w v _ ⟨t, rfl, l0_224 _ _ _ _ _ _ _ _ _ ?_⟩⟩
      · rw [if_pos l, if_pos l] at hp'
        rw [hv.2]
        exact nx _ _ _ _ t O' hp' (clr t b hb h2)
      · rw [if_neg l, if_neg l] at hp'
        rw [hv.2]
        exact nx _ _ _ _ t O' hp' (clr t b hb h2)
    refine ⟨by rw [i32_eq, e2]; simp; omega, fun _ => rd, fun _ => ⟨fun _ => rd, fun _ => ⟨fun _ => wr, fun _ => ⟨fun _ => wr, fun _ => ⟨fun _ => ?_, fun _ => ⟨fun _ => ?_, fun _ => ⟨fun _ => ⟨fun _ => ?_, fun _ => ?_⟩, fun _ => ?_⟩⟩⟩⟩⟩⟩⟩
    · -- fill
      refine own_7 8 F P L s p b v O _ (fun z => absurd hp z) (fun _ z => absurd hb z) fun _ _ t O' h2 _ _ => ?_
      rw [hv.1] at O'
      refine loop_up (F := fun j => ∀ y4 y6, own_LL (fun b' w' => if b' = ix b ∧ (w' : Int) < j.toInt then d &&& 15 else L b' w') y4 y6 → wplI PP QQ (some (N, sg)) 0 lm0 258 [some (.ref 0), none, some (.int x2), some (.ref 1), some (.long y4), none, some (.long y6), none, some (.int x8), some (.int i), none, none, none, none, some (.int b), none, none, some (.int v), some (.int j), none] [] (W1 t) (fun v _ => v = 1)) 4 (by decide) (fun j j0 j1 ej ihj y4 y6 hy => ?_) (fun j hj y4 y6 hy => ?_) 0 (by decide) (by decide) x4 x6 (own_LL_eq hL fun c x _ _ => if_neg (by simp))
      · have kj := ix_int j0
        have hp' := own_LL_put (L' := fun b' w' => if b' = ix b ∧ (w' : Int) < (j + 1).toInt then d &&& 15 else L b' w') hy b j (d &&& 15) hb ⟨j0, j1⟩ hd (fun c x _ _ => by
          show (if c = ix b ∧ (x : Int) < (j + 1).toInt then d &&& 15 else L c x) = if c = ix b ∧ x = ix j then d &&& 15 else if c = ix b ∧ (x : Int) < j.toInt then d &&& 15 else L c x
          by_cases q : c = ix b
          · by_cases r : x = ix j
            · rw [if_pos ⟨q, by omega⟩, if_pos ⟨q, r⟩]
            · rw [if_neg (c := c = ix b ∧ x = ix j) (fun z => r z.2)]
              by_cases y : (x : Int) < j.toInt
              · rw [if_pos ⟨q, by omega⟩, if_pos ⟨q, y⟩]
              · rw [if_neg (fun z => by have := z.2; omega), if_neg (fun z => y z.2)]
          · rw [if_neg (fun z => q z.1), if_neg (fun z => q z.1), if_neg (fun z => q z.1)])
        apply l0_258
        refine ⟨fun _ => ⟨fun l => own_put' N sg t y4 b j v _ ⟨t, rfl, l0_299 _ _ _ _ _ _ _ _ _ _ _ ?_⟩, fun l => own_put' N sg t y6 b j v _ ⟨t, rfl, l0_299 _ _ _ _ _ _ _ _ _ _ _ ?_⟩⟩, fun q => absurd (by rw [i32_lt]; exact j1) q⟩
        · rw [if_pos l, if_pos l] at hp'
          rw [hv.2]
          exact ihj _ _ hp'
        · rw [if_neg l, if_neg l] at hp'
          rw [hv.2]
          exact ihj _ _ hp'
      · apply l0_258
        refine ⟨fun q => absurd q (by rw [i32_lt, hj]; decide), fun _ => nx _ _ _ _ t O' (own_LL_eq hy fun c x hc hx => ?_) (clr t b hb h2)⟩
        show own_fl L (ix b) (fun _ => d &&& 15) c x = if c = ix b ∧ (x : Int) < j.toInt then d &&& 15 else L c x
        unfold own_fl
        by_cases q : c = ix b
        · rw [if_pos q, if_pos ⟨q, by omega⟩]
        · rw [if_neg q, if_neg (fun z => q z.1)]
    · -- copyBlock
      refine own_8 8 F P L s p b t O _ (fun z => absurd hp z) (fun _ z => absurd hb z) (fun _ _ z => absurd ht z) fun _ _ _ u O' h2 _ _ _ => ?_
      refine loop_up (F := fun j => ∀ y4 y6, own_LL (fun b' w' => if b' = ix t ∧ (w' : Int) < j.toInt then L (ix b) w' else L b' w') y4 y6 → wplI PP QQ (some (N, sg)) 0 lm0 339 [some (.ref 0), none, some (.int x2), some (.ref 1), some (.long y4), none, some (.long y6), none, some (.int x8), some (.int i), none, none, none, none, some (.int b), none, some (.int t), none, some (.int j), none] [] (W1 u) (fun v _ => v = 1)) 4 (by decide) (fun j j0 j1 ej ihj y4 y6 hy => ?_) (fun j hj y4 y6 hy => ?_) 0 (by decide) (by decide) x4 x6 (own_LL_eq hL fun c x _ _ => if_neg (by simp))
      · have kj := ix_int j0
        have rd := hL b j hb ⟨j0, j1⟩
        apply l0_339
        refine ⟨fun _ => own_get N sg u _ y4 y6 hy b j hb ⟨j0, j1⟩ _ ⟨u, rfl, ?_⟩, fun q => absurd (by rw [i32_lt]; exact j1) q⟩
        have ev : (if ix b = ix t ∧ (ix j : Int) < j.toInt then L (ix b) (ix j) else L (ix b) (ix j)) = L (ix b) (ix j) := by split <;> rfl
        have hp' := own_LL_put (L' := fun b' w' => if b' = ix t ∧ (w' : Int) < (j + 1).toInt then L (ix b) w' else L b' w') hy t j (L (ix b) (ix j)) ht ⟨j0, j1⟩ rd.2 (fun c x _ _ => by
          show (if c = ix t ∧ (x : Int) < (j + 1).toInt then L (ix b) x else L c x) = if c = ix t ∧ x = ix j then L (ix b) (ix j) else if c = ix t ∧ (x : Int) < j.toInt then L (ix b) x else L c x
          by_cases q : c = ix t
          · by_cases r : x = ix j
            · rw [if_pos ⟨q, by omega⟩, if_pos ⟨q, r⟩, r]
            · rw [if_neg (c := c = ix t ∧ x = ix j) (fun z => r z.2)]
              by_cases y : (x : Int) < j.toInt
              · rw [if_pos ⟨q, by omega⟩, if_pos ⟨q, y⟩]
              · rw [if_neg (fun z => by have := z.2; omega), if_neg (fun z => y z.2)]
          · rw [if_neg (fun z => q z.1), if_neg (fun z => q z.1), if_neg (fun z => q z.1)])
        have sv : (L (ix b) (ix j)) &&& 15 = L (ix b) (ix j) := own_s15 _ rd.2
        simp only [ev]
        refine ⟨fun l => own_put' N sg u y4 t j _ _ ⟨u, rfl, l0_393 _ _ _ _ _ _ _ _ _ _ _ ?_⟩, fun l => own_put' N sg u y6 t j _ _ ⟨u, rfl, l0_393 _ _ _ _ _ _ _ _ _ _ _ ?_⟩⟩
        · rw [if_pos l, if_pos l] at hp'
          rw [sv]
          exact ihj _ _ hp'
        · rw [if_neg l, if_neg l] at hp'
          rw [sv]
          exact ihj _ _ hp'
      · apply l0_339
        refine ⟨fun q => absurd q (by rw [i32_lt, hj]; decide), fun _ => nx _ _ _ _ u O' (own_LL_eq hy fun c x hc hx => ?_) (clr u t ht h2)⟩
        show own_fl L (ix t) (L (ix b)) c x = if c = ix t ∧ (x : Int) < j.toInt then L (ix b) x else L c x
        unfold own_fl
        by_cases q : c = ix t
        · rw [if_pos q, if_pos ⟨q, by omega⟩]
        · rw [if_neg q, if_neg (fun z => q z.1)]
    · exact own_9 8 F P L s _ O _ fun u O' tc => nx L x4 x6 x8 u O' hL (fun j hj q => by rw [tc 2 j (by omega)]; exact hk j hj q)
    · refine own_10 8 F P L s b O _ (fun z => absurd hb z) fun _ u O' h2 _ => nx L x4 x6 _ u O' hL (fun j hj q => ?_)
      rw [own_bt_or x8 b hb.1 (by omega) j (by omega)] at q
      rw [h2]
      by_cases z : j = ix b
      · rw [if_pos z]; decide
      · rw [if_neg z]; simp [z] at q; exact hk j hj q
    · refine own_11 8 F P L s O _ fun u O' h2 _ => own_13 8 F P L u O' _ fun v5 e5 => ⟨fun _ => nx L x4 x6 _ u O' hL (fun j hj q => by rw [h2 j (by omega)]; decide), fun q => absurd ?_ q⟩
      rw [i32_eq, e5, own_uc0 (fun j hj => by rw [h2 j (by omega)]; decide)]; rfl
  apply l0_in
  apply l2r0W0_in
  have st : ∀ c : Int32, (W0 = W0 ∧ calV PP 0 0 [.ref 0, .int (8 : Int32), .int ((2 : Int32) + (c &&& 3)), .int ((1 : Int32) + ((Jvm.Free.XT.ushr c 2) &&& 3))] s0 (fun s4 => own_T42 N sg ((1 : Int32) + ((Jvm.Free.XT.ushr c 2) &&& 3)) 0 0 0 1 s4)) := by
    intro c
    refine ⟨rfl, ?_⟩
    have m := own_msk (Jvm.Free.XT.ushr c 2) 3 2 4 (by decide) (by decide) (by decide)
    generalize (Jvm.Free.XT.ushr c 2) &&& 3 = y at *
    have e1 : (1 + y).toInt = 1 + y.toInt := by rw [i32_add] <;> simp <;> omega
    refine own_0 8 _ _ _ fun B F P S eB eF eP O s2 s13 s14 s15 => ?_
    have eB : B = 8 := by
      have : (if (8 : Int32) < 8 then (8 : Int32) else if 32 < (8 : Int32) then 32 else 8).toInt = 8 := by decide
      omega
    subst eB
    have eP' : (P : Int) = (1 + y).toInt := by
      rw [eP, if_neg (by rw [i32_lt, e1]; simp; omega), if_neg (by rw [i32_lt, e1]; simp; omega)]
    refine key F P (N + 2) 1 _ _ 0 0 0 S (by decide) (by show (1 : Int) + _ = _; omega) eP'.symm (by omega) (by omega) O (fun b w hb hw => ?_) (fun j _ q => by rw [own_bt_0] at q; exact absurd q (by decide))
    refine ⟨?_, by decide, by decide⟩
    have ni := own_ni b w hb hw
    have z : own_nb 0 ((b &&& 3) * 4 + w) = 0 := by
      apply own_bl_ext
      intro j hj
      rw [own_nb_bit _ _ (by omega) (by omega) j hj]
      simp [own_bl]
    unfold own_gt
    rw [ite_self, z]; rfl
  refine ⟨fun q => ⟨⟨by decide, ?_⟩, st _⟩, fun _ => st _⟩
  rw [i32_lt, eN] at q; simpa using q
theorem comes_1 {Post : Tables → Env → Array Value → State → Outcome → State → Prop} (hpost : ∀ tb e args s v u, (limb_1_1.after args s (.returned v) u = true ∧ limb_1_2.after args s (.returned v) u = true ∧ True) → FrameEnd s (.returned v) u (Jvm.fieldLocs frame_1_writes args s ++ Jvm.arrayLocs frame_1_arrays args s ++ Jvm.staticLocs frame_1_statics s) 48 768 → Post tb e args s (.returned v) u) :
    ArmFor flags0 classFile x code maxLocals ret World_1 tables_1 room_1 Calls_1 rest_1 Pre_1 Post := by
  intro l hfl _ _ p e ha hc hk s m args below hf hA hF happ hP
  obtain ⟨hcalls, hrest, hpre⟩ := hP
  obtain ⟨-, -, -, hnamed, -, -, -, hat⟩ := (Spec.applies_iff hf).mp happ
  obtain ⟨hg, hn⟩ := and_e (Cond.before_iff.mp (show (Jvm.Cond.and given_1 narrow_1).before args s = true from hpre))
  obtain ⟨h1, g0⟩ := and_e hg
  obtain ⟨w0, rfl⟩ : ∃ w0 : Value, args = #[w0] := by
    have hs : args.size = 1 := by simpa [Cond.value, given_1] using h1
    obtain ⟨L⟩ := args
    match L, hs with
    | [w0], _ => exact ⟨w0, rfl⟩
  have hw := fun d (hd : d ∈ tables_1) => atoms_spec (ws := Jvm.Cond.code x code maxLocals ret :: tables_1) hat d (List.mem_cons_of_mem _ hd)
  have hfit : Fit s := fun {y c} hc i hi => by
    obtain ⟨ha, rfl⟩ := Array.getElem?_eq_some_iff.mp hc
    have q := List.all_eq_true.mp ((Array.all_eq_true_iff_forall_mem.mp hF) _ (Array.getElem_mem ha)) i (List.mem_range.mpr hi)
    simpa [Array.getElem?_eq_getElem hi] using q
  obtain ⟨hn1, hn2⟩ := and_e hn
  obtain ⟨a, ea⟩ := arr_v hn1
  obtain rfl : w0 = .ref a := Option.some.inj ea
  obtain ⟨cl, A⟩ := Arr.start ea hn1
  obtain ⟨⟨-, hN⟩, hS⟩ := script_of hfit A ea hn2
  obtain ⟨f, w0, hr⟩ := law_run (law_ok cl.slots.size (fun i => match cl.slots[i]? with | some (.int x) => x | _ => 0) hN) (me := lm0) rfl
  have M : MetFree l x (head1 (Jvm.Cond.code x code maxLocals ret :: tables_1) room_1) (fun b U => b = #[.ref a] ∧ s.Warmed39 U.vm ∧ U.heap = s.heap) (fun _ _ _ _ _ => True) (fun _ U o U' => ∃ u L, o = .returned u ∧ (u = some (.int 1) ∧ Fr s.heap.size L) ∧ FrameEnd U o U' L 48 768) :=
    law_met (lkC s _ hw) (lkL s _ hw) (sc := some (cl.slots.size, fun i => match cl.slots[i]? with | some (.int x) => x | _ => 0)) (a := a) (me := lm0) rfl l (bytes := code) (chk_ok dk_l0) (as := [.ref 0]) rfl (Nat.le_of_ble_eq_true rfl) hr hS
  obtain ⟨n, o, h1, h2, h3, _, L, rfl, ⟨rfl, N⟩, hq⟩ := M p e ha hc hk s m _ below hf ((Spec.applies_iff_loose hf).mp happ).1 ⟨rfl, State.Warmed39.refl s, rfl⟩ trivial
  refine ⟨n, _, h1, h2, h3, hpost _ _ _ _ _ _ ⟨Cond.after_iff.mpr rfl, Cond.after_iff.mpr (eq_i res_at (Term.int_eval (1)) rfl), trivial⟩ ⟨hq.1, hq.2.1, (hq.2.2.sift fun y hy => Or.inr (N y hy)).mono (by decide) (by decide)⟩⟩
theorem main_1_1 : Claimed_1_1 := comes_1 fun _ _ _ _ _ _ h hF => ⟨h.1, hF⟩
theorem main_1_2 : Claimed_1_2 := comes_1 fun _ _ _ _ _ _ h hF => ⟨h.2.1, hF⟩
end Jvm.Pilot.@@N@@
namespace Jvm.Pilot.@@N@@
open Jvm Jvm.ClassFile Sem Op Lib Jvm.Free Jvm.Stand Jvm.Pilot.@@N@@.Jvm.D
/-! MADE BY PROGRAM (witnessworld.py) out of the Statement's table words and the real class files: 11 classes; the members and pool entries that the words name. The judged class is class 1, her method 4. -/
namespace start1
open Jvm.ClassFile
def u (s : String) : CpInfo := .utf8 (stringToUtf16 s)
/-- a pool by its gaps: so many unusable entries, then the entry; so many at the end -/
def gap : Nat → List CpInfo → List CpInfo
  | 0, r => r
  | n + 1, r => .unusable :: gap n r
def poolList (es : List (Nat × CpInfo)) (last : Nat) : List CpInfo := es.foldr (fun e r => gap e.1 (e.2 :: r)) (gap last [])
def pool (es : List (Nat × CpInfo)) (last : Nat) : Array CpInfo := ⟨poolList es last⟩
def fileOf (pool : Array CpInfo) (this : Nat) (attrs : Array Attribute := #[]) (ms : Array MethodInfo := #[]) (fl : Nat := 33) (sup : Nat := 0) (ifs : Array Nat := #[]) (fds : Array FieldInfo := #[]) : ClassFile where
  minorVersion := 0
  majorVersion := 65
  constantPool := pool
  accessFlags := fl
  thisClass := this
  superClass := sup
  interfaces := ifs
  fields := fds
  methods := ms
  attributes := attrs
def plain (name : String) (sup : Option ClassId) : Class where
  name := name
  kind := .ordinary
  loader := none
  accessFlags := 33
  super := sup
  interfaces := #[]
  cf := none
  fields := #[]
  methods := #[]
  instanceTypes := #[]
  staticTypes := #[]
  resolved := #[]
  callSites := []
  init := .initialized
  statics := none
  mirror := none

def pool0 : Array CpInfo := pool [(5, u "<init>"), (0, u "()V"), (1, .class_ 10), (1, u "java/lang/Object")] 113

def k0c0 : Code := { maxStack := 0, maxLocals := 1, code := object_method_1_code, exceptionTable := #[], attributes := #[] }
def k0m0 : Method := { name := "<init>", desc := "()V", sig := { parameters := [], returnType := none }, accessFlags := 1, code := some k0c0 }
/-- java/lang/Object -/
def k0 : Class := { plain "java/lang/Object" none with
  accessFlags := 33
  interfaces := #[]
  cf := some (fileOf pool0 8 #[] #[{ accessFlags := 1, nameIndex := 5, descriptorIndex := 6, attributes := #[] }] 33 0 #[] #[])
  fields := #[]
  methods := #[k0m0]
  instanceTypes := #[]
  staticTypes := #[]
  resolved := Array.replicate 124 none
  statics := none }

def pool1 : Array CpInfo := pool [(2, .class_ 4), (1, u "java/lang/Object"), (0, u "<init>"), (0, u "()V"), (0, .long 15), (1, .long 18446744073709551615), (1, .methodref 12 13), (0, .class_ 14), (0, .nameAndType 15 16), (0, u "BlockBufferCacheOwnLaw"), (0, u "cell"), (0, u "([II)I"), (0, .class_ 18), (0, u "BlockBufferCache"), (0, .methodref 17 20), (0, .nameAndType 5 21), (0, u "(III)V"), (0, .methodref 17 23), (0, .nameAndType 24 25), (0, u "read"), (0, u "(III)I"), (0, .methodref 12 27), (0, .nameAndType 28 29), (0, u "get"), (0, u "(JJII)I"), (0, .methodref 17 31), (0, .nameAndType 32 33), (0, u "write"), (0, u "(IIII)I"), (0, .methodref 12 35), (0, .nameAndType 36 37), (0, u "put"), (0, u "(JIII)J"), (0, .methodref 17 39), (0, .nameAndType 40 25), (0, u "fill"), (0, .methodref 17 42), (0, .nameAndType 43 25), (0, u "copyBlock"), (0, .methodref 17 45), (0, .nameAndType 46 47), (0, u "step"), (0, u "(I)V"), (0, .methodref 17 49), (0, .nameAndType 50 51), (0, u "syncBlock"), (0, u "(I)I"), (0, .methodref 17 53), (0, .nameAndType 54 6), (0, u "sync"), (0, .methodref 17 56), (0, .nameAndType 57 58), (0, u "unsyncedCount"), (0, u "()I"), (0, .methodref 17 60), (0, .nameAndType 61 62), (0, u "diskWord"), (0, u "(II)I"), (3, u "law"), (0, u "([I)Z")] 4

def k1m0 : Method := { name := "<init>", desc := "()V", sig := { parameters := [], returnType := none }, accessFlags := 1, code := none }
def k1c1 : Code := { maxStack := 2, maxLocals := 2, code := method_2_code, exceptionTable := #[], attributes := #[] }
def k1m1 : Method := { name := "cell", desc := "([II)I", sig := { parameters := [(.array .int), .int], returnType := some .int }, accessFlags := 10, code := some k1c1 }
def k1c2 : Code := { maxStack := 4, maxLocals := 9, code := method_3_code, exceptionTable := #[], attributes := #[] }
def k1m2 : Method := { name := "get", desc := "(JJII)I", sig := { parameters := [.long, .long, .int, .int], returnType := some .int }, accessFlags := 10, code := some k1c2 }
def k1c3 : Code := { maxStack := 6, maxLocals := 6, code := method_4_code, exceptionTable := #[], attributes := #[] }
def k1m3 : Method := { name := "put", desc := "(JIII)J", sig := { parameters := [.long, .int, .int, .int], returnType := some .long }, accessFlags := 10, code := some k1c3 }
def k1c4 : Code := { maxStack := 7, maxLocals := 20, code := code, exceptionTable := #[], attributes := #[] }
def k1m4 : Method := { name := "law", desc := "([I)Z", sig := { parameters := [(.array .int)], returnType := some .boolean }, accessFlags := 9, code := some k1c4 }
/-- BlockBufferCacheOwnLaw -/
def k1 : Class := { plain "BlockBufferCacheOwnLaw" (some 0) with
  accessFlags := 49
  interfaces := #[]
  cf := some (fileOf pool1 12 #[] #[{ accessFlags := 1, nameIndex := 5, descriptorIndex := 6, attributes := #[] }, { accessFlags := 10, nameIndex := 15, descriptorIndex := 16, attributes := #[] }, { accessFlags := 10, nameIndex := 28, descriptorIndex := 29, attributes := #[] }, { accessFlags := 10, nameIndex := 36, descriptorIndex := 37, attributes := #[] }, { accessFlags := 9, nameIndex := 66, descriptorIndex := 67, attributes := #[] }] 49 2 #[] #[])
  fields := #[]
  methods := #[k1m0, k1m1, k1m2, k1m3, k1m4]
  instanceTypes := #[]
  staticTypes := #[]
  resolved := Array.replicate 72 none
  statics := none }

def pool2 : Array CpInfo := pool [(1, .methodref 2 3), (0, .class_ 4), (0, .nameAndType 5 6), (0, u "java/lang/Object"), (0, u "<init>"), (0, u "()V"), (0, .fieldref 8 9), (0, .class_ 10), (0, .nameAndType 11 12), (0, u "BlockBufferCache"), (0, u "disk"), (0, u "[I"), (0, .fieldref 8 14), (0, .nameAndType 15 16), (0, u "known"), (0, u "[Z"), (0, .fieldref 8 18), (0, .nameAndType 19 12), (0, u "bufData"), (0, .fieldref 8 21), (0, .nameAndType 22 12), (0, u "bufBlock"), (0, .fieldref 8 24), (0, .nameAndType 25 16), (0, u "valid"), (0, .fieldref 8 27), (0, .nameAndType 28 16), (0, u "dirty"), (0, .fieldref 8 30), (0, .nameAndType 31 16), (0, u "busy"), (0, .fieldref 8 33), (0, .nameAndType 34 16), (0, u "held"), (0, .fieldref 8 36), (0, .nameAndType 37 12), (0, u "lastUse"), (0, .fieldref 8 39), (0, .nameAndType 40 12), (0, u "qBuf"), (0, .fieldref 8 42), (0, .nameAndType 43 12), (0, u "qBlock"), (0, .fieldref 8 45), (0, .nameAndType 46 16), (0, u "qWrite"), (0, .fieldref 8 48), (0, .nameAndType 49 12), (0, u "last"), (0, .fieldref 8 51), (0, .nameAndType 52 12), (0, u "reads"), (0, .fieldref 8 54), (0, .nameAndType 55 12), (0, u "writes"), (0, .fieldref 8 57), (0, .nameAndType 58 12), (0, u "waitBuf"), (0, .methodref 8 60), (0, .nameAndType 61 62), (0, u "clamp"), (0, u "(III)I"), (0, .fieldref 8 64), (0, .nameAndType 65 66), (0, u "nBlocks"), (0, u "I"), (0, .fieldref 8 68), (0, .nameAndType 69 66), (0, u "nBufs"), (0, .fieldref 8 71), (0, .nameAndType 72 66), (0, u "nProcs"), (0, .fieldref 8 74), (0, .nameAndType 75 66), (0, u "tick"), (0, .fieldref 8 77), (0, .nameAndType 78 66), (0, u "qLen"), (0, .fieldref 8 80), (0, .nameAndType 81 66), (0, u "head"), (0, .methodref 8 83), (0, .nameAndType 84 85), (0, u "badProc"), (0, u "(I)Z"), (0, .methodref 8 87), (0, .nameAndType 88 85), (0, u "badBlock"), (0, .methodref 8 90), (0, .nameAndType 91 85), (0, u "badWord"), (0, .methodref 8 93), (0, .nameAndType 94 95), (0, u "getBlock"), (0, u "(IIZ)I"), (0, .methodref 8 97), (0, .nameAndType 98 62), (0, u "loadWord"), (0, .methodref 8 100), (0, .nameAndType 101 102), (0, u "release"), (0, u "(I)V"), (0, .integer 65535), (0, .methodref 8 105), (0, .nameAndType 106 107), (0, u "storeWord"), (0, u "(IIII)V"), (0, .methodref 8 109), (0, .nameAndType 110 102), (0, u "markDirty"), (0, .methodref 8 112), (0, .nameAndType 113 102), (0, u "markFull"), (0, .methodref 8 115), (0, .nameAndType 116 107), (0, u "copyBetween"), (0, .methodref 8 118), (0, .nameAndType 119 120), (0, u "interrupt"), (0, u "()Z"), (0, .methodref 8 122), (0, .nameAndType 123 124), (0, u "findBuf"), (0, u "(I)I"), (0, .methodref 8 126), (0, .nameAndType 127 128), (0, u "waitBuffer"), (0, u "(II)V"), (0, .methodref 8 130), (0, .nameAndType 131 132), (0, u "enqueue"), (0, u "(IIZ)Z"), (0, .methodref 8 134), (0, .nameAndType 135 6), (0, u "drain"), (3, u "(II)I"), (0, .methodref 8 141), (0, .nameAndType 142 85), (0, u "goodBuf"), (0, .methodref 8 144), (0, .nameAndType 145 146), (0, u "allocate"), (0, u "()I"), (0, .methodref 8 148), (0, .nameAndType 149 102), (0, u "touch"), (0, .methodref 8 151), (0, .nameAndType 152 146), (0, u "lruFree"), (0, .methodref 8 154), (0, .nameAndType 155 146), (0, u "pickNext"), (0, .methodref 8 157), (0, .nameAndType 158 102), (0, u "removeAt"), (0, .methodref 8 160), (0, .nameAndType 161 162), (0, u "transfer"), (0, u "(IIZ)V"), (0, .methodref 8 164), (0, .nameAndType 165 102), (0, u "wake"), (0, u "WORDS"), (2, u "OK"), (1, u "UNKNOWN"), (1, u "ERR_PROC"), (1, u "ERR_BLOCK"), (1, u "ERR_WORD"), (1, u "NONE"), (1, u "MAX_BLOCKS"), (1, u "MAX_BUFS"), (1, u "MAX_PROCS"), (0, u "QUEUE_CAP"), (1, u "LOOP_LIMIT"), (1, u "MASK"), (0, u "(III)V"), (6, u "read"), (0, u "write"), (0, u "(IIII)I"), (0, u "fill"), (0, u "copyBlock"), (0, u "step"), (0, u "syncBlock"), (0, u "sync"), (0, u "diskWord"), (0, u "unsyncedCount")] 6

def k2c0 : Code := { maxStack := 5, maxLocals := 5, code := prog_1_method_1_code, exceptionTable := #[], attributes := #[] }
def k2m0 : Method := { name := "<init>", desc := "(III)V", sig := { parameters := [.int, .int, .int], returnType := none }, accessFlags := 1, code := some k2c0 }
def k2c1 : Code := { maxStack := 4, maxLocals := 6, code := prog_1_method_5_code, exceptionTable := #[], attributes := #[] }
def k2m1 : Method := { name := "read", desc := "(III)I", sig := { parameters := [.int, .int, .int], returnType := some .int }, accessFlags := 1, code := some k2c1 }
def k2c2 : Code := { maxStack := 6, maxLocals := 6, code := prog_1_method_6_code, exceptionTable := #[], attributes := #[] }
def k2m2 : Method := { name := "write", desc := "(IIII)I", sig := { parameters := [.int, .int, .int, .int], returnType := some .int }, accessFlags := 1, code := some k2c2 }
def k2c3 : Code := { maxStack := 5, maxLocals := 7, code := prog_1_method_7_code, exceptionTable := #[], attributes := #[] }
def k2m3 : Method := { name := "fill", desc := "(III)I", sig := { parameters := [.int, .int, .int], returnType := some .int }, accessFlags := 1, code := some k2c3 }
def k2c4 : Code := { maxStack := 5, maxLocals := 5, code := prog_1_method_8_code, exceptionTable := #[], attributes := #[] }
def k2m4 : Method := { name := "copyBlock", desc := "(III)I", sig := { parameters := [.int, .int, .int], returnType := some .int }, accessFlags := 1, code := some k2c4 }
def k2c5 : Code := { maxStack := 4, maxLocals := 4, code := prog_1_method_9_code, exceptionTable := #[], attributes := #[] }
def k2m5 : Method := { name := "step", desc := "(I)V", sig := { parameters := [.int], returnType := none }, accessFlags := 1, code := some k2c5 }
def k2c6 : Code := { maxStack := 4, maxLocals := 3, code := prog_1_method_10_code, exceptionTable := #[], attributes := #[] }
def k2m6 : Method := { name := "syncBlock", desc := "(I)I", sig := { parameters := [.int], returnType := some .int }, accessFlags := 1, code := some k2c6 }
def k2c7 : Code := { maxStack := 4, maxLocals := 3, code := prog_1_method_11_code, exceptionTable := #[], attributes := #[] }
def k2m7 : Method := { name := "sync", desc := "()V", sig := { parameters := [], returnType := none }, accessFlags := 1, code := some k2c7 }
def k2c8 : Code := { maxStack := 3, maxLocals := 3, code := prog_1_method_12_code, exceptionTable := #[], attributes := #[] }
def k2m8 : Method := { name := "diskWord", desc := "(II)I", sig := { parameters := [.int, .int], returnType := some .int }, accessFlags := 1, code := some k2c8 }
def k2c9 : Code := { maxStack := 2, maxLocals := 3, code := prog_1_method_13_code, exceptionTable := #[], attributes := #[] }
def k2m9 : Method := { name := "unsyncedCount", desc := "()I", sig := { parameters := [], returnType := some .int }, accessFlags := 1, code := some k2c9 }
def k2c10 : Code := { maxStack := 2, maxLocals := 4, code := prog_1_method_18_code, exceptionTable := #[], attributes := #[] }
def k2m10 : Method := { name := "clamp", desc := "(III)I", sig := { parameters := [.int, .int, .int], returnType := some .int }, accessFlags := 2, code := some k2c10 }
def k2c11 : Code := { maxStack := 2, maxLocals := 2, code := prog_1_method_19_code, exceptionTable := #[], attributes := #[] }
def k2m11 : Method := { name := "badProc", desc := "(I)Z", sig := { parameters := [.int], returnType := some .boolean }, accessFlags := 2, code := some k2c11 }
def k2c12 : Code := { maxStack := 2, maxLocals := 2, code := prog_1_method_20_code, exceptionTable := #[], attributes := #[] }
def k2m12 : Method := { name := "badBlock", desc := "(I)Z", sig := { parameters := [.int], returnType := some .boolean }, accessFlags := 2, code := some k2c12 }
def k2c13 : Code := { maxStack := 2, maxLocals := 2, code := prog_1_method_21_code, exceptionTable := #[], attributes := #[] }
def k2m13 : Method := { name := "badWord", desc := "(I)Z", sig := { parameters := [.int], returnType := some .boolean }, accessFlags := 2, code := some k2c13 }
def k2c14 : Code := { maxStack := 2, maxLocals := 2, code := prog_1_method_22_code, exceptionTable := #[], attributes := #[] }
def k2m14 : Method := { name := "goodBuf", desc := "(I)Z", sig := { parameters := [.int], returnType := some .boolean }, accessFlags := 2, code := some k2c14 }
def k2c15 : Code := { maxStack := 5, maxLocals := 10, code := prog_1_method_23_code, exceptionTable := #[], attributes := #[] }
def k2m15 : Method := { name := "copyBetween", desc := "(IIII)V", sig := { parameters := [.int, .int, .int, .int], returnType := none }, accessFlags := 2, code := some k2c15 }
def k2c16 : Code := { maxStack := 3, maxLocals := 4, code := prog_1_method_24_code, exceptionTable := #[], attributes := #[] }
def k2m16 : Method := { name := "loadWord", desc := "(III)I", sig := { parameters := [.int, .int, .int], returnType := some .int }, accessFlags := 2, code := some k2c16 }
def k2c17 : Code := { maxStack := 3, maxLocals := 5, code := prog_1_method_25_code, exceptionTable := #[], attributes := #[] }
def k2m17 : Method := { name := "storeWord", desc := "(IIII)V", sig := { parameters := [.int, .int, .int, .int], returnType := none }, accessFlags := 2, code := some k2c17 }
def k2c18 : Code := { maxStack := 3, maxLocals := 2, code := prog_1_method_27_code, exceptionTable := #[], attributes := #[] }
def k2m18 : Method := { name := "markDirty", desc := "(I)V", sig := { parameters := [.int], returnType := none }, accessFlags := 2, code := some k2c18 }
def k2c19 : Code := { maxStack := 3, maxLocals := 2, code := prog_1_method_28_code, exceptionTable := #[], attributes := #[] }
def k2m19 : Method := { name := "markFull", desc := "(I)V", sig := { parameters := [.int], returnType := none }, accessFlags := 2, code := some k2c19 }
def k2c20 : Code := { maxStack := 3, maxLocals := 2, code := prog_1_method_29_code, exceptionTable := #[], attributes := #[] }
def k2m20 : Method := { name := "release", desc := "(I)V", sig := { parameters := [.int], returnType := none }, accessFlags := 2, code := some k2c20 }
def k2c21 : Code := { maxStack := 3, maxLocals := 2, code := prog_1_method_30_code, exceptionTable := #[], attributes := #[] }
def k2m21 : Method := { name := "touch", desc := "(I)V", sig := { parameters := [.int], returnType := none }, accessFlags := 2, code := some k2c21 }
def k2c22 : Code := { maxStack := 2, maxLocals := 3, code := prog_1_method_31_code, exceptionTable := #[], attributes := #[] }
def k2m22 : Method := { name := "findBuf", desc := "(I)I", sig := { parameters := [.int], returnType := some .int }, accessFlags := 2, code := some k2c22 }
def k2c23 : Code := { maxStack := 4, maxLocals := 5, code := prog_1_method_32_code, exceptionTable := #[], attributes := #[] }
def k2m23 : Method := { name := "getBlock", desc := "(IIZ)I", sig := { parameters := [.int, .int, .boolean], returnType := some .int }, accessFlags := 2, code := some k2c23 }
def k2c24 : Code := { maxStack := 4, maxLocals := 4, code := prog_1_method_33_code, exceptionTable := #[], attributes := #[] }
def k2m24 : Method := { name := "allocate", desc := "()I", sig := { parameters := [], returnType := some .int }, accessFlags := 2, code := some k2c24 }
def k2c25 : Code := { maxStack := 3, maxLocals := 3, code := prog_1_method_34_code, exceptionTable := #[], attributes := #[] }
def k2m25 : Method := { name := "lruFree", desc := "()I", sig := { parameters := [], returnType := some .int }, accessFlags := 2, code := some k2c25 }
def k2c26 : Code := { maxStack := 3, maxLocals := 5, code := prog_1_method_35_code, exceptionTable := #[], attributes := #[] }
def k2m26 : Method := { name := "waitBuffer", desc := "(II)V", sig := { parameters := [.int, .int], returnType := none }, accessFlags := 2, code := some k2c26 }
def k2c27 : Code := { maxStack := 3, maxLocals := 4, code := prog_1_method_36_code, exceptionTable := #[], attributes := #[] }
def k2m27 : Method := { name := "enqueue", desc := "(IIZ)Z", sig := { parameters := [.int, .int, .boolean], returnType := some .boolean }, accessFlags := 2, code := some k2c27 }
def k2c28 : Code := { maxStack := 2, maxLocals := 2, code := prog_1_method_37_code, exceptionTable := #[], attributes := #[] }
def k2m28 : Method := { name := "drain", desc := "()V", sig := { parameters := [], returnType := none }, accessFlags := 2, code := some k2c28 }
def k2c29 : Code := { maxStack := 3, maxLocals := 5, code := prog_1_method_38_code, exceptionTable := #[], attributes := #[] }
def k2m29 : Method := { name := "pickNext", desc := "()I", sig := { parameters := [], returnType := some .int }, accessFlags := 2, code := some k2c29 }
def k2c30 : Code := { maxStack := 5, maxLocals := 3, code := prog_1_method_39_code, exceptionTable := #[], attributes := #[] }
def k2m30 : Method := { name := "removeAt", desc := "(I)V", sig := { parameters := [.int], returnType := none }, accessFlags := 2, code := some k2c30 }
def k2c31 : Code := { maxStack := 4, maxLocals := 5, code := prog_1_method_40_code, exceptionTable := #[], attributes := #[] }
def k2m31 : Method := { name := "interrupt", desc := "()Z", sig := { parameters := [], returnType := some .boolean }, accessFlags := 2, code := some k2c31 }
def k2c32 : Code := { maxStack := 5, maxLocals := 7, code := prog_1_method_41_code, exceptionTable := #[], attributes := #[] }
def k2m32 : Method := { name := "transfer", desc := "(IIZ)V", sig := { parameters := [.int, .int, .boolean], returnType := none }, accessFlags := 2, code := some k2c32 }
def k2c33 : Code := { maxStack := 3, maxLocals := 3, code := prog_1_method_42_code, exceptionTable := #[], attributes := #[] }
def k2m33 : Method := { name := "wake", desc := "(I)V", sig := { parameters := [.int], returnType := none }, accessFlags := 2, code := some k2c33 }
/-- BlockBufferCache -/
def k2 : Class := { plain "BlockBufferCache" (some 0) with
  accessFlags := 49
  interfaces := #[]
  cf := some (fileOf pool2 8 #[] #[{ accessFlags := 1, nameIndex := 5, descriptorIndex := 191, attributes := #[] }, { accessFlags := 1, nameIndex := 198, descriptorIndex := 62, attributes := #[] }, { accessFlags := 1, nameIndex := 199, descriptorIndex := 200, attributes := #[] }, { accessFlags := 1, nameIndex := 201, descriptorIndex := 62, attributes := #[] }, { accessFlags := 1, nameIndex := 202, descriptorIndex := 62, attributes := #[] }, { accessFlags := 1, nameIndex := 203, descriptorIndex := 102, attributes := #[] }, { accessFlags := 1, nameIndex := 204, descriptorIndex := 124, attributes := #[] }, { accessFlags := 1, nameIndex := 205, descriptorIndex := 6, attributes := #[] }, { accessFlags := 1, nameIndex := 206, descriptorIndex := 139, attributes := #[] }, { accessFlags := 1, nameIndex := 207, descriptorIndex := 146, attributes := #[] }, { accessFlags := 2, nameIndex := 61, descriptorIndex := 62, attributes := #[] }, { accessFlags := 2, nameIndex := 84, descriptorIndex := 85, attributes := #[] }, { accessFlags := 2, nameIndex := 88, descriptorIndex := 85, attributes := #[] }, { accessFlags := 2, nameIndex := 91, descriptorIndex := 85, attributes := #[] }, { accessFlags := 2, nameIndex := 142, descriptorIndex := 85, attributes := #[] }, { accessFlags := 2, nameIndex := 116, descriptorIndex := 107, attributes := #[] }, { accessFlags := 2, nameIndex := 98, descriptorIndex := 62, attributes := #[] }, { accessFlags := 2, nameIndex := 106, descriptorIndex := 107, attributes := #[] }, { accessFlags := 2, nameIndex := 110, descriptorIndex := 102, attributes := #[] }, { accessFlags := 2, nameIndex := 113, descriptorIndex := 102, attributes := #[] }, { accessFlags := 2, nameIndex := 101, descriptorIndex := 102, attributes := #[] }, { accessFlags := 2, nameIndex := 149, descriptorIndex := 102, attributes := #[] }, { accessFlags := 2, nameIndex := 123, descriptorIndex := 124, attributes := #[] }, { accessFlags := 2, nameIndex := 94, descriptorIndex := 95, attributes := #[] }, { accessFlags := 2, nameIndex := 145, descriptorIndex := 146, attributes := #[] }, { accessFlags := 2, nameIndex := 152, descriptorIndex := 146, attributes := #[] }, { accessFlags := 2, nameIndex := 127, descriptorIndex := 128, attributes := #[] }, { accessFlags := 2, nameIndex := 131, descriptorIndex := 132, attributes := #[] }, { accessFlags := 2, nameIndex := 135, descriptorIndex := 6, attributes := #[] }, { accessFlags := 2, nameIndex := 155, descriptorIndex := 146, attributes := #[] }, { accessFlags := 2, nameIndex := 158, descriptorIndex := 102, attributes := #[] }, { accessFlags := 2, nameIndex := 119, descriptorIndex := 120, attributes := #[] }, { accessFlags := 2, nameIndex := 161, descriptorIndex := 162, attributes := #[] }, { accessFlags := 2, nameIndex := 165, descriptorIndex := 102, attributes := #[] }] 49 2 #[] #[{ accessFlags := 25, nameIndex := 166, descriptorIndex := 66, attributes := #[] }, { accessFlags := 25, nameIndex := 169, descriptorIndex := 66, attributes := #[] }, { accessFlags := 25, nameIndex := 171, descriptorIndex := 66, attributes := #[] }, { accessFlags := 25, nameIndex := 173, descriptorIndex := 66, attributes := #[] }, { accessFlags := 25, nameIndex := 175, descriptorIndex := 66, attributes := #[] }, { accessFlags := 25, nameIndex := 177, descriptorIndex := 66, attributes := #[] }, { accessFlags := 25, nameIndex := 179, descriptorIndex := 66, attributes := #[] }, { accessFlags := 26, nameIndex := 181, descriptorIndex := 66, attributes := #[] }, { accessFlags := 26, nameIndex := 183, descriptorIndex := 66, attributes := #[] }, { accessFlags := 26, nameIndex := 185, descriptorIndex := 66, attributes := #[] }, { accessFlags := 26, nameIndex := 186, descriptorIndex := 66, attributes := #[] }, { accessFlags := 26, nameIndex := 188, descriptorIndex := 66, attributes := #[] }, { accessFlags := 26, nameIndex := 190, descriptorIndex := 66, attributes := #[] }, { accessFlags := 2, nameIndex := 65, descriptorIndex := 66, attributes := #[] }, { accessFlags := 2, nameIndex := 69, descriptorIndex := 66, attributes := #[] }, { accessFlags := 2, nameIndex := 72, descriptorIndex := 66, attributes := #[] }, { accessFlags := 18, nameIndex := 11, descriptorIndex := 12, attributes := #[] }, { accessFlags := 18, nameIndex := 15, descriptorIndex := 16, attributes := #[] }, { accessFlags := 18, nameIndex := 19, descriptorIndex := 12, attributes := #[] }, { accessFlags := 18, nameIndex := 22, descriptorIndex := 12, attributes := #[] }, { accessFlags := 18, nameIndex := 25, descriptorIndex := 16, attributes := #[] }, { accessFlags := 18, nameIndex := 28, descriptorIndex := 16, attributes := #[] }, { accessFlags := 18, nameIndex := 31, descriptorIndex := 16, attributes := #[] }, { accessFlags := 18, nameIndex := 34, descriptorIndex := 16, attributes := #[] }, { accessFlags := 18, nameIndex := 37, descriptorIndex := 12, attributes := #[] }, { accessFlags := 2, nameIndex := 75, descriptorIndex := 66, attributes := #[] }, { accessFlags := 18, nameIndex := 40, descriptorIndex := 12, attributes := #[] }, { accessFlags := 18, nameIndex := 43, descriptorIndex := 12, attributes := #[] }, { accessFlags := 18, nameIndex := 46, descriptorIndex := 16, attributes := #[] }, { accessFlags := 2, nameIndex := 78, descriptorIndex := 66, attributes := #[] }, { accessFlags := 2, nameIndex := 81, descriptorIndex := 66, attributes := #[] }, { accessFlags := 18, nameIndex := 49, descriptorIndex := 12, attributes := #[] }, { accessFlags := 18, nameIndex := 52, descriptorIndex := 12, attributes := #[] }, { accessFlags := 18, nameIndex := 55, descriptorIndex := 12, attributes := #[] }, { accessFlags := 18, nameIndex := 58, descriptorIndex := 12, attributes := #[] }])
  fields := #[{ name := "WORDS", type := .int, accessFlags := 25, slot := 0, constantValue := 0 }, { name := "OK", type := .int, accessFlags := 25, slot := 1, constantValue := 0 }, { name := "UNKNOWN", type := .int, accessFlags := 25, slot := 2, constantValue := 0 }, { name := "ERR_PROC", type := .int, accessFlags := 25, slot := 3, constantValue := 0 }, { name := "ERR_BLOCK", type := .int, accessFlags := 25, slot := 4, constantValue := 0 }, { name := "ERR_WORD", type := .int, accessFlags := 25, slot := 5, constantValue := 0 }, { name := "NONE", type := .int, accessFlags := 25, slot := 6, constantValue := 0 }, { name := "MAX_BLOCKS", type := .int, accessFlags := 26, slot := 7, constantValue := 0 }, { name := "MAX_BUFS", type := .int, accessFlags := 26, slot := 8, constantValue := 0 }, { name := "MAX_PROCS", type := .int, accessFlags := 26, slot := 9, constantValue := 0 }, { name := "QUEUE_CAP", type := .int, accessFlags := 26, slot := 10, constantValue := 0 }, { name := "LOOP_LIMIT", type := .int, accessFlags := 26, slot := 11, constantValue := 0 }, { name := "MASK", type := .int, accessFlags := 26, slot := 12, constantValue := 0 }, { name := "nBlocks", type := .int, accessFlags := 2, slot := 0, constantValue := 0 }, { name := "nBufs", type := .int, accessFlags := 2, slot := 1, constantValue := 0 }, { name := "nProcs", type := .int, accessFlags := 2, slot := 2, constantValue := 0 }, { name := "disk", type := (.array .int), accessFlags := 18, slot := 3, constantValue := 0 }, { name := "known", type := (.array .boolean), accessFlags := 18, slot := 4, constantValue := 0 }, { name := "bufData", type := (.array .int), accessFlags := 18, slot := 5, constantValue := 0 }, { name := "bufBlock", type := (.array .int), accessFlags := 18, slot := 6, constantValue := 0 }, { name := "valid", type := (.array .boolean), accessFlags := 18, slot := 7, constantValue := 0 }, { name := "dirty", type := (.array .boolean), accessFlags := 18, slot := 8, constantValue := 0 }, { name := "busy", type := (.array .boolean), accessFlags := 18, slot := 9, constantValue := 0 }, { name := "held", type := (.array .boolean), accessFlags := 18, slot := 10, constantValue := 0 }, { name := "lastUse", type := (.array .int), accessFlags := 18, slot := 11, constantValue := 0 }, { name := "tick", type := .int, accessFlags := 2, slot := 12, constantValue := 0 }, { name := "qBuf", type := (.array .int), accessFlags := 18, slot := 13, constantValue := 0 }, { name := "qBlock", type := (.array .int), accessFlags := 18, slot := 14, constantValue := 0 }, { name := "qWrite", type := (.array .boolean), accessFlags := 18, slot := 15, constantValue := 0 }, { name := "qLen", type := .int, accessFlags := 2, slot := 16, constantValue := 0 }, { name := "head", type := .int, accessFlags := 2, slot := 17, constantValue := 0 }, { name := "last", type := (.array .int), accessFlags := 18, slot := 18, constantValue := 0 }, { name := "reads", type := (.array .int), accessFlags := 18, slot := 19, constantValue := 0 }, { name := "writes", type := (.array .int), accessFlags := 18, slot := 20, constantValue := 0 }, { name := "waitBuf", type := (.array .int), accessFlags := 18, slot := 21, constantValue := 0 }]
  methods := #[k2m0, k2m1, k2m2, k2m3, k2m4, k2m5, k2m6, k2m7, k2m8, k2m9, k2m10, k2m11, k2m12, k2m13, k2m14, k2m15, k2m16, k2m17, k2m18, k2m19, k2m20, k2m21, k2m22, k2m23, k2m24, k2m25, k2m26, k2m27, k2m28, k2m29, k2m30, k2m31, k2m32, k2m33]
  instanceTypes := #[.int, .int, .int, (.array .int), (.array .boolean), (.array .int), (.array .int), (.array .boolean), (.array .boolean), (.array .boolean), (.array .boolean), (.array .int), .int, (.array .int), (.array .int), (.array .boolean), .int, .int, (.array .int), (.array .int), (.array .int), (.array .int)]
  staticTypes := #[.int, .int, .int, .int, .int, .int, .int, .int, .int, .int, .int, .int, .int]
  resolved := Array.replicate 214 none
  statics := none }

def pool3 : Array CpInfo := pool [(1, u "java/lang/Cloneable"), (0, .class_ 1), (0, u "java/lang/Object"), (0, .class_ 3)] 3

/-- java/lang/Cloneable -/
def k3 : Class := { plain "java/lang/Cloneable" (some 0) with
  accessFlags := 1537
  interfaces := #[]
  cf := some (fileOf pool3 2 #[] #[] 1537 4 #[] #[])
  fields := #[]
  methods := #[]
  instanceTypes := #[]
  staticTypes := #[]
  resolved := Array.replicate 8 none
  statics := none }

def pool4 : Array CpInfo := pool [(1, u "java/io/Serializable"), (0, .class_ 1), (0, u "java/lang/Object"), (0, .class_ 3)] 3

/-- java/io/Serializable -/
def k4 : Class := { plain "java/io/Serializable" (some 0) with
  accessFlags := 1537
  interfaces := #[]
  cf := some (fileOf pool4 2 #[] #[] 1537 4 #[] #[])
  fields := #[]
  methods := #[]
  instanceTypes := #[]
  staticTypes := #[]
  resolved := Array.replicate 8 none
  statics := none }

/-- the primitive boolean -/
def k5 : Class := { plain "boolean" none with kind := .primitive 'Z', accessFlags := 0x411 }
/-- [Z -/
def k6 : Class := { plain "[Z" (some 0) with kind := .array 5 .boolean, interfaces := #[3, 4], accessFlags := 1041 }

/-- the primitive byte -/
def k7 : Class := { plain "byte" none with kind := .primitive 'B', accessFlags := 0x411 }
/-- [B -/
def k8 : Class := { plain "[B" (some 0) with kind := .array 7 .byte, interfaces := #[3, 4], accessFlags := 1041 }

/-- the primitive int -/
def k9 : Class := { plain "int" none with kind := .primitive 'I', accessFlags := 0x411 }
/-- [I -/
def k10 : Class := { plain "[I" (some 0) with kind := .array 9 .int, interfaces := #[3, 4], accessFlags := 1041 }

def heap : Heap := #[{ cls := 10, slots := #[.int 1, .int 2, .int 3], vm := .none }]
def classes : Array Class := #[k0, k1, k2, k3, k4, k5, k6, k7, k8, k9, k10]
def interned : List (Array UInt16 × Addr) := []
def slotsUsed : Nat := 3
def theMethod : MethodId := ⟨1, 4⟩
def args0 : Array Value := #[.ref 0]
def aboutOver (below : List Frame) : State where
  vm := { classes := classes, interned := interned.toArray }
  heap := heap
  slotsUsed := slotsUsed
  threads := #[{ frames := .invoking theMethod args0 :: below }]
def below0 : List Frame := [.native { method := ⟨0, 0⟩, args := #[] }]
def about1 : State := aboutOver below0
def p0 : Program := .bare "" "" ""
def e0 : Env := launch0.env 0 0 0
theorem w_frames : about1.frames = Frame.invoking theMethod args0 :: below0 := rfl
set_option maxRecDepth 65536 in
theorem w_args : argsFit about1.vm theMethod args0 = true := by decide +kernel
set_option maxRecDepth 65536 in
theorem w_heap : heapFits about1 = true := by decide +kernel
set_option maxRecDepth 65536 in
theorem w_runnable : about1.curStatus? = some .runnable := by decide +kernel
set_option maxRecDepth 65536 in
theorem w_alone : about1.alone = true := by decide +kernel
set_option maxRecDepth 65536 in
theorem w_named : about1.methodNamed? x = some theMethod := by decide +kernel
set_option maxRecDepth 65536 in
theorem w_hears : about1.hears theMethod below0 = true := by decide +kernel
set_option maxRecDepth 65536 in
theorem w_ripe : about1.ripe theMethod args0 below0 = true := by decide +kernel
theorem w_running : about1.status = .running := rfl
set_option maxRecDepth 65536 in
theorem w_room : about1.hasRoom e0.platform room_1 = true :=
  launch0.hasRoom_least _ room_1 (by decide +kernel) (by decide +kernel) (by decide +kernel) (by decide +kernel) (by decide +kernel) (by decide +kernel)
theorem allAtoms_all (ts : List Jvm.Cond) (a : Array Jvm.Value) (st : Jvm.State) : (allAtoms ts).before a st = ts.all (fun c => c.before a st) := by
  induction ts with
  | nil => rfl
  | cons c t ih =>
    show (Jvm.Cond.and c (allAtoms t)).before a st = _
    rw [Jvm.Cond.before_and, ih, List.all_cons]
def words1 : List Jvm.Cond := Jvm.Cond.code x code maxLocals ret :: tables_1
/-- a 'code' word, met by the world's own term for the bytes: nothing is compared byte by byte -/
theorem code_word {y : MethodName} {bytes : ByteArray} {mx : Nat} {rt : Option FieldType} {a : Array Value} {s : State} {m : MethodId} {meth : Method} {c : Code} (h1 : s.methodNamed? y = some m) (h2 : s.vm.method? m = some meth) (h3 : meth.code = some c) (h4 : c.code = bytes)
    (h5 : (c.maxLocals == mx && c.exceptionTable.isEmpty && decide (c.maxStack ≤ mostOperands) && decide (meth.sig.returnType = rt) && !meth.locks && decide (parseMethodDescriptor y.desc = some meth.sig)) = true) : (Jvm.Cond.code y bytes mx rt).before a s = true := by
  simp only [Bool.and_eq_true, beq_iff_eq, Bool.not_eq_true', decide_eq_true_eq] at h5
  obtain ⟨⟨⟨⟨⟨g1, g2⟩, g3⟩, g4⟩, g5⟩, g6⟩ := h5
  simp [Cond.before, Cond.holds, Cond.value, h1, h2, h3, h4, g1, g2, g3, g4, g5, g6]
def isCode : Jvm.Cond → Bool
  | .code _ _ _ _ => true
  | _ => false
theorem all_split {L : List Jvm.Cond} {P : Jvm.Cond → Bool} (h1 : L.all (fun c => isCode c || P c) = true) (h2 : ∀ c ∈ L.filter isCode, P c = true) : L.all P = true := by
  refine List.all_eq_true.mpr fun c hc => ?_
  have h := List.all_eq_true.mp h1 c hc
  rcases Bool.eq_false_or_eq_true (isCode c) with hi | hi
  · exact h2 c (List.mem_filter.mpr ⟨hc, hi⟩)
  · simpa [hi] using h
set_option maxRecDepth 65536 in
theorem w_c0 : (Jvm.Cond.code x code maxLocals ret).before args0 about1 = true := code_word (m := ⟨1, 4⟩) (meth := k1m4) (c := k1c4) (by decide +kernel) rfl rfl rfl (by decide +kernel)
set_option maxRecDepth 65536 in
theorem w_c1 : (Jvm.Cond.code ({ cls := "BlockBufferCacheOwnLaw", name := "cell", desc := "([II)I" } : Jvm.MethodName) method_2_code (2 : Nat) (Option.some Jvm.ClassFile.FieldType.int)).before args0 about1 = true := code_word (m := ⟨1, 1⟩) (meth := k1m1) (c := k1c1) (by decide +kernel) rfl rfl rfl (by decide +kernel)
set_option maxRecDepth 65536 in
theorem w_c2 : (Jvm.Cond.code ({ cls := "BlockBufferCache", name := "<init>", desc := "(III)V" } : Jvm.MethodName) prog_1_method_1_code (5 : Nat) (Option.none : Option Jvm.ClassFile.FieldType)).before args0 about1 = true := code_word (m := ⟨2, 0⟩) (meth := k2m0) (c := k2c0) (by decide +kernel) rfl rfl rfl (by decide +kernel)
set_option maxRecDepth 65536 in
theorem w_c3 : (Jvm.Cond.code ({ cls := "java/lang/Object", name := "<init>", desc := "()V" } : Jvm.MethodName) object_method_1_code (1 : Nat) (Option.none : Option Jvm.ClassFile.FieldType)).before args0 about1 = true := code_word (m := ⟨0, 0⟩) (meth := k0m0) (c := k0c0) (by decide +kernel) rfl rfl rfl (by decide +kernel)
set_option maxRecDepth 65536 in
theorem w_c4 : (Jvm.Cond.code ({ cls := "BlockBufferCache", name := "clamp", desc := "(III)I" } : Jvm.MethodName) prog_1_method_18_code (4 : Nat) (Option.some Jvm.ClassFile.FieldType.int)).before args0 about1 = true := code_word (m := ⟨2, 10⟩) (meth := k2m10) (c := k2c10) (by decide +kernel) rfl rfl rfl (by decide +kernel)
set_option maxRecDepth 65536 in
theorem w_c5 : (Jvm.Cond.code ({ cls := "BlockBufferCache", name := "write", desc := "(IIII)I" } : Jvm.MethodName) prog_1_method_6_code (6 : Nat) (Option.some Jvm.ClassFile.FieldType.int)).before args0 about1 = true := code_word (m := ⟨2, 2⟩) (meth := k2m2) (c := k2c2) (by decide +kernel) rfl rfl rfl (by decide +kernel)
set_option maxRecDepth 65536 in
theorem w_c6 : (Jvm.Cond.code ({ cls := "BlockBufferCache", name := "badProc", desc := "(I)Z" } : Jvm.MethodName) prog_1_method_19_code (2 : Nat) (Option.some Jvm.ClassFile.FieldType.boolean)).before args0 about1 = true := code_word (m := ⟨2, 11⟩) (meth := k2m11) (c := k2c11) (by decide +kernel) rfl rfl rfl (by decide +kernel)
set_option maxRecDepth 65536 in
theorem w_c7 : (Jvm.Cond.code ({ cls := "BlockBufferCache", name := "badBlock", desc := "(I)Z" } : Jvm.MethodName) prog_1_method_20_code (2 : Nat) (Option.some Jvm.ClassFile.FieldType.boolean)).before args0 about1 = true := code_word (m := ⟨2, 12⟩) (meth := k2m12) (c := k2c12) (by decide +kernel) rfl rfl rfl (by decide +kernel)
set_option maxRecDepth 65536 in
theorem w_c8 : (Jvm.Cond.code ({ cls := "BlockBufferCache", name := "badWord", desc := "(I)Z" } : Jvm.MethodName) prog_1_method_21_code (2 : Nat) (Option.some Jvm.ClassFile.FieldType.boolean)).before args0 about1 = true := code_word (m := ⟨2, 13⟩) (meth := k2m13) (c := k2c13) (by decide +kernel) rfl rfl rfl (by decide +kernel)
set_option maxRecDepth 65536 in
theorem w_c9 : (Jvm.Cond.code ({ cls := "BlockBufferCache", name := "getBlock", desc := "(IIZ)I" } : Jvm.MethodName) prog_1_method_32_code (5 : Nat) (Option.some Jvm.ClassFile.FieldType.int)).before args0 about1 = true := code_word (m := ⟨2, 23⟩) (meth := k2m23) (c := k2c23) (by decide +kernel) rfl rfl rfl (by decide +kernel)
set_option maxRecDepth 65536 in
theorem w_c10 : (Jvm.Cond.code ({ cls := "BlockBufferCache", name := "findBuf", desc := "(I)I" } : Jvm.MethodName) prog_1_method_31_code (3 : Nat) (Option.some Jvm.ClassFile.FieldType.int)).before args0 about1 = true := code_word (m := ⟨2, 22⟩) (meth := k2m22) (c := k2c22) (by decide +kernel) rfl rfl rfl (by decide +kernel)
set_option maxRecDepth 65536 in
theorem w_c11 : (Jvm.Cond.code ({ cls := "BlockBufferCache", name := "allocate", desc := "()I" } : Jvm.MethodName) prog_1_method_33_code (4 : Nat) (Option.some Jvm.ClassFile.FieldType.int)).before args0 about1 = true := code_word (m := ⟨2, 24⟩) (meth := k2m24) (c := k2c24) (by decide +kernel) rfl rfl rfl (by decide +kernel)
set_option maxRecDepth 65536 in
theorem w_c12 : (Jvm.Cond.code ({ cls := "BlockBufferCache", name := "lruFree", desc := "()I" } : Jvm.MethodName) prog_1_method_34_code (3 : Nat) (Option.some Jvm.ClassFile.FieldType.int)).before args0 about1 = true := code_word (m := ⟨2, 25⟩) (meth := k2m25) (c := k2c25) (by decide +kernel) rfl rfl rfl (by decide +kernel)
set_option maxRecDepth 65536 in
theorem w_c13 : (Jvm.Cond.code ({ cls := "BlockBufferCache", name := "touch", desc := "(I)V" } : Jvm.MethodName) prog_1_method_30_code (2 : Nat) (Option.none : Option Jvm.ClassFile.FieldType)).before args0 about1 = true := code_word (m := ⟨2, 21⟩) (meth := k2m21) (c := k2c21) (by decide +kernel) rfl rfl rfl (by decide +kernel)
set_option maxRecDepth 65536 in
theorem w_c14 : (Jvm.Cond.code ({ cls := "BlockBufferCache", name := "enqueue", desc := "(IIZ)Z" } : Jvm.MethodName) prog_1_method_36_code (4 : Nat) (Option.some Jvm.ClassFile.FieldType.boolean)).before args0 about1 = true := code_word (m := ⟨2, 27⟩) (meth := k2m27) (c := k2c27) (by decide +kernel) rfl rfl rfl (by decide +kernel)
set_option maxRecDepth 65536 in
theorem w_c15 : (Jvm.Cond.code ({ cls := "BlockBufferCache", name := "waitBuffer", desc := "(II)V" } : Jvm.MethodName) prog_1_method_35_code (5 : Nat) (Option.none : Option Jvm.ClassFile.FieldType)).before args0 about1 = true := code_word (m := ⟨2, 26⟩) (meth := k2m26) (c := k2c26) (by decide +kernel) rfl rfl rfl (by decide +kernel)
set_option maxRecDepth 65536 in
theorem w_c16 : (Jvm.Cond.code ({ cls := "BlockBufferCache", name := "goodBuf", desc := "(I)Z" } : Jvm.MethodName) prog_1_method_22_code (2 : Nat) (Option.some Jvm.ClassFile.FieldType.boolean)).before args0 about1 = true := code_word (m := ⟨2, 14⟩) (meth := k2m14) (c := k2c14) (by decide +kernel) rfl rfl rfl (by decide +kernel)
set_option maxRecDepth 65536 in
theorem w_c17 : (Jvm.Cond.code ({ cls := "BlockBufferCache", name := "interrupt", desc := "()Z" } : Jvm.MethodName) prog_1_method_40_code (5 : Nat) (Option.some Jvm.ClassFile.FieldType.boolean)).before args0 about1 = true := code_word (m := ⟨2, 31⟩) (meth := k2m31) (c := k2c31) (by decide +kernel) rfl rfl rfl (by decide +kernel)
set_option maxRecDepth 65536 in
theorem w_c18 : (Jvm.Cond.code ({ cls := "BlockBufferCache", name := "pickNext", desc := "()I" } : Jvm.MethodName) prog_1_method_38_code (5 : Nat) (Option.some Jvm.ClassFile.FieldType.int)).before args0 about1 = true := code_word (m := ⟨2, 29⟩) (meth := k2m29) (c := k2c29) (by decide +kernel) rfl rfl rfl (by decide +kernel)
set_option maxRecDepth 65536 in
theorem w_c19 : (Jvm.Cond.code ({ cls := "BlockBufferCache", name := "removeAt", desc := "(I)V" } : Jvm.MethodName) prog_1_method_39_code (3 : Nat) (Option.none : Option Jvm.ClassFile.FieldType)).before args0 about1 = true := code_word (m := ⟨2, 30⟩) (meth := k2m30) (c := k2c30) (by decide +kernel) rfl rfl rfl (by decide +kernel)
set_option maxRecDepth 65536 in
theorem w_c20 : (Jvm.Cond.code ({ cls := "BlockBufferCache", name := "transfer", desc := "(IIZ)V" } : Jvm.MethodName) prog_1_method_41_code (7 : Nat) (Option.none : Option Jvm.ClassFile.FieldType)).before args0 about1 = true := code_word (m := ⟨2, 32⟩) (meth := k2m32) (c := k2c32) (by decide +kernel) rfl rfl rfl (by decide +kernel)
set_option maxRecDepth 65536 in
theorem w_c21 : (Jvm.Cond.code ({ cls := "BlockBufferCache", name := "wake", desc := "(I)V" } : Jvm.MethodName) prog_1_method_42_code (3 : Nat) (Option.none : Option Jvm.ClassFile.FieldType)).before args0 about1 = true := code_word (m := ⟨2, 33⟩) (meth := k2m33) (c := k2c33) (by decide +kernel) rfl rfl rfl (by decide +kernel)
set_option maxRecDepth 65536 in
theorem w_c22 : (Jvm.Cond.code ({ cls := "BlockBufferCache", name := "storeWord", desc := "(IIII)V" } : Jvm.MethodName) prog_1_method_25_code (5 : Nat) (Option.none : Option Jvm.ClassFile.FieldType)).before args0 about1 = true := code_word (m := ⟨2, 17⟩) (meth := k2m17) (c := k2c17) (by decide +kernel) rfl rfl rfl (by decide +kernel)
set_option maxRecDepth 65536 in
theorem w_c23 : (Jvm.Cond.code ({ cls := "BlockBufferCache", name := "markDirty", desc := "(I)V" } : Jvm.MethodName) prog_1_method_27_code (2 : Nat) (Option.none : Option Jvm.ClassFile.FieldType)).before args0 about1 = true := code_word (m := ⟨2, 18⟩) (meth := k2m18) (c := k2c18) (by decide +kernel) rfl rfl rfl (by decide +kernel)
set_option maxRecDepth 65536 in
theorem w_c24 : (Jvm.Cond.code ({ cls := "BlockBufferCache", name := "release", desc := "(I)V" } : Jvm.MethodName) prog_1_method_29_code (2 : Nat) (Option.none : Option Jvm.ClassFile.FieldType)).before args0 about1 = true := code_word (m := ⟨2, 20⟩) (meth := k2m20) (c := k2c20) (by decide +kernel) rfl rfl rfl (by decide +kernel)
set_option maxRecDepth 65536 in
theorem w_c25 : (Jvm.Cond.code ({ cls := "BlockBufferCacheOwnLaw", name := "put", desc := "(JIII)J" } : Jvm.MethodName) method_4_code (6 : Nat) (Option.some Jvm.ClassFile.FieldType.long)).before args0 about1 = true := code_word (m := ⟨1, 3⟩) (meth := k1m3) (c := k1c3) (by decide +kernel) rfl rfl rfl (by decide +kernel)
set_option maxRecDepth 65536 in
theorem w_c26 : (Jvm.Cond.code ({ cls := "BlockBufferCache", name := "read", desc := "(III)I" } : Jvm.MethodName) prog_1_method_5_code (6 : Nat) (Option.some Jvm.ClassFile.FieldType.int)).before args0 about1 = true := code_word (m := ⟨2, 1⟩) (meth := k2m1) (c := k2c1) (by decide +kernel) rfl rfl rfl (by decide +kernel)
set_option maxRecDepth 65536 in
theorem w_c27 : (Jvm.Cond.code ({ cls := "BlockBufferCache", name := "loadWord", desc := "(III)I" } : Jvm.MethodName) prog_1_method_24_code (4 : Nat) (Option.some Jvm.ClassFile.FieldType.int)).before args0 about1 = true := code_word (m := ⟨2, 16⟩) (meth := k2m16) (c := k2c16) (by decide +kernel) rfl rfl rfl (by decide +kernel)
set_option maxRecDepth 65536 in
theorem w_c28 : (Jvm.Cond.code ({ cls := "BlockBufferCacheOwnLaw", name := "get", desc := "(JJII)I" } : Jvm.MethodName) method_3_code (9 : Nat) (Option.some Jvm.ClassFile.FieldType.int)).before args0 about1 = true := code_word (m := ⟨1, 2⟩) (meth := k1m2) (c := k1c2) (by decide +kernel) rfl rfl rfl (by decide +kernel)
set_option maxRecDepth 65536 in
theorem w_c29 : (Jvm.Cond.code ({ cls := "BlockBufferCache", name := "fill", desc := "(III)I" } : Jvm.MethodName) prog_1_method_7_code (7 : Nat) (Option.some Jvm.ClassFile.FieldType.int)).before args0 about1 = true := code_word (m := ⟨2, 3⟩) (meth := k2m3) (c := k2c3) (by decide +kernel) rfl rfl rfl (by decide +kernel)
set_option maxRecDepth 65536 in
theorem w_c30 : (Jvm.Cond.code ({ cls := "BlockBufferCache", name := "markFull", desc := "(I)V" } : Jvm.MethodName) prog_1_method_28_code (2 : Nat) (Option.none : Option Jvm.ClassFile.FieldType)).before args0 about1 = true := code_word (m := ⟨2, 19⟩) (meth := k2m19) (c := k2c19) (by decide +kernel) rfl rfl rfl (by decide +kernel)
set_option maxRecDepth 65536 in
theorem w_c31 : (Jvm.Cond.code ({ cls := "BlockBufferCache", name := "copyBlock", desc := "(III)I" } : Jvm.MethodName) prog_1_method_8_code (5 : Nat) (Option.some Jvm.ClassFile.FieldType.int)).before args0 about1 = true := code_word (m := ⟨2, 4⟩) (meth := k2m4) (c := k2c4) (by decide +kernel) rfl rfl rfl (by decide +kernel)
set_option maxRecDepth 65536 in
theorem w_c32 : (Jvm.Cond.code ({ cls := "BlockBufferCache", name := "step", desc := "(I)V" } : Jvm.MethodName) prog_1_method_9_code (4 : Nat) (Option.none : Option Jvm.ClassFile.FieldType)).before args0 about1 = true := code_word (m := ⟨2, 5⟩) (meth := k2m5) (c := k2c5) (by decide +kernel) rfl rfl rfl (by decide +kernel)
set_option maxRecDepth 65536 in
theorem w_c33 : (Jvm.Cond.code ({ cls := "BlockBufferCache", name := "sync", desc := "()V" } : Jvm.MethodName) prog_1_method_11_code (3 : Nat) (Option.none : Option Jvm.ClassFile.FieldType)).before args0 about1 = true := code_word (m := ⟨2, 7⟩) (meth := k2m7) (c := k2c7) (by decide +kernel) rfl rfl rfl (by decide +kernel)
set_option maxRecDepth 65536 in
theorem w_c34 : (Jvm.Cond.code ({ cls := "BlockBufferCache", name := "drain", desc := "()V" } : Jvm.MethodName) prog_1_method_37_code (2 : Nat) (Option.none : Option Jvm.ClassFile.FieldType)).before args0 about1 = true := code_word (m := ⟨2, 28⟩) (meth := k2m28) (c := k2c28) (by decide +kernel) rfl rfl rfl (by decide +kernel)
set_option maxRecDepth 65536 in
theorem w_c35 : (Jvm.Cond.code ({ cls := "BlockBufferCache", name := "unsyncedCount", desc := "()I" } : Jvm.MethodName) prog_1_method_13_code (3 : Nat) (Option.some Jvm.ClassFile.FieldType.int)).before args0 about1 = true := code_word (m := ⟨2, 9⟩) (meth := k2m9) (c := k2c9) (by decide +kernel) rfl rfl rfl (by decide +kernel)
set_option maxRecDepth 65536 in
theorem w_c36 : (Jvm.Cond.code ({ cls := "BlockBufferCache", name := "diskWord", desc := "(II)I" } : Jvm.MethodName) prog_1_method_12_code (3 : Nat) (Option.some Jvm.ClassFile.FieldType.int)).before args0 about1 = true := code_word (m := ⟨2, 8⟩) (meth := k2m8) (c := k2c8) (by decide +kernel) rfl rfl rfl (by decide +kernel)
set_option maxRecDepth 65536 in
theorem w_c37 : (Jvm.Cond.code ({ cls := "BlockBufferCache", name := "copyBetween", desc := "(IIII)V" } : Jvm.MethodName) prog_1_method_23_code (10 : Nat) (Option.none : Option Jvm.ClassFile.FieldType)).before args0 about1 = true := code_word (m := ⟨2, 15⟩) (meth := k2m15) (c := k2c15) (by decide +kernel) rfl rfl rfl (by decide +kernel)
set_option maxRecDepth 65536 in
theorem w_c38 : (Jvm.Cond.code ({ cls := "BlockBufferCache", name := "syncBlock", desc := "(I)I" } : Jvm.MethodName) prog_1_method_10_code (3 : Nat) (Option.some Jvm.ClassFile.FieldType.int)).before args0 about1 = true := code_word (m := ⟨2, 6⟩) (meth := k2m6) (c := k2c6) (by decide +kernel) rfl rfl rfl (by decide +kernel)
def codes1 : List Jvm.Cond := [Jvm.Cond.code x code maxLocals ret, Jvm.Cond.code ({ cls := "BlockBufferCacheOwnLaw", name := "cell", desc := "([II)I" } : Jvm.MethodName) method_2_code (2 : Nat) (Option.some Jvm.ClassFile.FieldType.int), Jvm.Cond.code ({ cls := "BlockBufferCache", name := "<init>", desc := "(III)V" } : Jvm.MethodName) prog_1_method_1_code (5 : Nat) (Option.none : Option Jvm.ClassFile.FieldType), Jvm.Cond.code ({ cls := "java/lang/Object", name := "<init>", desc := "()V" } : Jvm.MethodName) object_method_1_code (1 : Nat) (Option.none : Option Jvm.ClassFile.FieldType), Jvm.Cond.code ({ cls := "BlockBufferCache", name := "clamp", desc := "(III)I" } : Jvm.MethodName) prog_1_method_18_code (4 : Nat) (Option.some Jvm.ClassFile.FieldType.int), Jvm.Cond.code ({ cls := "BlockBufferCache", name := "write", desc := "(IIII)I" } : Jvm.MethodName) prog_1_method_6_code (6 : Nat) (Option.some Jvm.ClassFile.FieldType.int), Jvm.Cond.code ({ cls := "BlockBufferCache", name := "badProc", desc := "(I)Z" } : Jvm.MethodName) prog_1_method_19_code (2 : Nat) (Option.some Jvm.ClassFile.FieldType.boolean), Jvm.Cond.code ({ cls := "BlockBufferCache", name := "badBlock", desc := "(I)Z" } : Jvm.MethodName) prog_1_method_20_code (2 : Nat) (Option.some Jvm.ClassFile.FieldType.boolean), Jvm.Cond.code ({ cls := "BlockBufferCache", name := "badWord", desc := "(I)Z" } : Jvm.MethodName) prog_1_method_21_code (2 : Nat) (Option.some Jvm.ClassFile.FieldType.boolean), Jvm.Cond.code ({ cls := "BlockBufferCache", name := "getBlock", desc := "(IIZ)I" } : Jvm.MethodName) prog_1_method_32_code (5 : Nat) (Option.some Jvm.ClassFile.FieldType.int), Jvm.Cond.code ({ cls := "BlockBufferCache", name := "findBuf", desc := "(I)I" } : Jvm.MethodName) prog_1_method_31_code (3 : Nat) (Option.some Jvm.ClassFile.FieldType.int), Jvm.Cond.code ({ cls := "BlockBufferCache", name := "allocate", desc := "()I" } : Jvm.MethodName) prog_1_method_33_code (4 : Nat) (Option.some Jvm.ClassFile.FieldType.int), Jvm.Cond.code ({ cls := "BlockBufferCache", name := "lruFree", desc := "()I" } : Jvm.MethodName) prog_1_method_34_code (3 : Nat) (Option.some Jvm.ClassFile.FieldType.int), Jvm.Cond.code ({ cls := "BlockBufferCache", name := "touch", desc := "(I)V" } : Jvm.MethodName) prog_1_method_30_code (2 : Nat) (Option.none : Option Jvm.ClassFile.FieldType), Jvm.Cond.code ({ cls := "BlockBufferCache", name := "enqueue", desc := "(IIZ)Z" } : Jvm.MethodName) prog_1_method_36_code (4 : Nat) (Option.some Jvm.ClassFile.FieldType.boolean), Jvm.Cond.code ({ cls := "BlockBufferCache", name := "waitBuffer", desc := "(II)V" } : Jvm.MethodName) prog_1_method_35_code (5 : Nat) (Option.none : Option Jvm.ClassFile.FieldType), Jvm.Cond.code ({ cls := "BlockBufferCache", name := "goodBuf", desc := "(I)Z" } : Jvm.MethodName) prog_1_method_22_code (2 : Nat) (Option.some Jvm.ClassFile.FieldType.boolean), Jvm.Cond.code ({ cls := "BlockBufferCache", name := "interrupt", desc := "()Z" } : Jvm.MethodName) prog_1_method_40_code (5 : Nat) (Option.some Jvm.ClassFile.FieldType.boolean), Jvm.Cond.code ({ cls := "BlockBufferCache", name := "pickNext", desc := "()I" } : Jvm.MethodName) prog_1_method_38_code (5 : Nat) (Option.some Jvm.ClassFile.FieldType.int), Jvm.Cond.code ({ cls := "BlockBufferCache", name := "removeAt", desc := "(I)V" } : Jvm.MethodName) prog_1_method_39_code (3 : Nat) (Option.none : Option Jvm.ClassFile.FieldType), Jvm.Cond.code ({ cls := "BlockBufferCache", name := "transfer", desc := "(IIZ)V" } : Jvm.MethodName) prog_1_method_41_code (7 : Nat) (Option.none : Option Jvm.ClassFile.FieldType), Jvm.Cond.code ({ cls := "BlockBufferCache", name := "wake", desc := "(I)V" } : Jvm.MethodName) prog_1_method_42_code (3 : Nat) (Option.none : Option Jvm.ClassFile.FieldType), Jvm.Cond.code ({ cls := "BlockBufferCache", name := "storeWord", desc := "(IIII)V" } : Jvm.MethodName) prog_1_method_25_code (5 : Nat) (Option.none : Option Jvm.ClassFile.FieldType), Jvm.Cond.code ({ cls := "BlockBufferCache", name := "markDirty", desc := "(I)V" } : Jvm.MethodName) prog_1_method_27_code (2 : Nat) (Option.none : Option Jvm.ClassFile.FieldType), Jvm.Cond.code ({ cls := "BlockBufferCache", name := "release", desc := "(I)V" } : Jvm.MethodName) prog_1_method_29_code (2 : Nat) (Option.none : Option Jvm.ClassFile.FieldType), Jvm.Cond.code ({ cls := "BlockBufferCacheOwnLaw", name := "put", desc := "(JIII)J" } : Jvm.MethodName) method_4_code (6 : Nat) (Option.some Jvm.ClassFile.FieldType.long), Jvm.Cond.code ({ cls := "BlockBufferCache", name := "read", desc := "(III)I" } : Jvm.MethodName) prog_1_method_5_code (6 : Nat) (Option.some Jvm.ClassFile.FieldType.int), Jvm.Cond.code ({ cls := "BlockBufferCache", name := "loadWord", desc := "(III)I" } : Jvm.MethodName) prog_1_method_24_code (4 : Nat) (Option.some Jvm.ClassFile.FieldType.int), Jvm.Cond.code ({ cls := "BlockBufferCacheOwnLaw", name := "get", desc := "(JJII)I" } : Jvm.MethodName) method_3_code (9 : Nat) (Option.some Jvm.ClassFile.FieldType.int), Jvm.Cond.code ({ cls := "BlockBufferCache", name := "fill", desc := "(III)I" } : Jvm.MethodName) prog_1_method_7_code (7 : Nat) (Option.some Jvm.ClassFile.FieldType.int), Jvm.Cond.code ({ cls := "BlockBufferCache", name := "markFull", desc := "(I)V" } : Jvm.MethodName) prog_1_method_28_code (2 : Nat) (Option.none : Option Jvm.ClassFile.FieldType), Jvm.Cond.code ({ cls := "BlockBufferCache", name := "copyBlock", desc := "(III)I" } : Jvm.MethodName) prog_1_method_8_code (5 : Nat) (Option.some Jvm.ClassFile.FieldType.int), Jvm.Cond.code ({ cls := "BlockBufferCache", name := "step", desc := "(I)V" } : Jvm.MethodName) prog_1_method_9_code (4 : Nat) (Option.none : Option Jvm.ClassFile.FieldType), Jvm.Cond.code ({ cls := "BlockBufferCache", name := "sync", desc := "()V" } : Jvm.MethodName) prog_1_method_11_code (3 : Nat) (Option.none : Option Jvm.ClassFile.FieldType), Jvm.Cond.code ({ cls := "BlockBufferCache", name := "drain", desc := "()V" } : Jvm.MethodName) prog_1_method_37_code (2 : Nat) (Option.none : Option Jvm.ClassFile.FieldType), Jvm.Cond.code ({ cls := "BlockBufferCache", name := "unsyncedCount", desc := "()I" } : Jvm.MethodName) prog_1_method_13_code (3 : Nat) (Option.some Jvm.ClassFile.FieldType.int), Jvm.Cond.code ({ cls := "BlockBufferCache", name := "diskWord", desc := "(II)I" } : Jvm.MethodName) prog_1_method_12_code (3 : Nat) (Option.some Jvm.ClassFile.FieldType.int), Jvm.Cond.code ({ cls := "BlockBufferCache", name := "copyBetween", desc := "(IIII)V" } : Jvm.MethodName) prog_1_method_23_code (10 : Nat) (Option.none : Option Jvm.ClassFile.FieldType), Jvm.Cond.code ({ cls := "BlockBufferCache", name := "syncBlock", desc := "(I)I" } : Jvm.MethodName) prog_1_method_10_code (3 : Nat) (Option.some Jvm.ClassFile.FieldType.int)]
set_option maxRecDepth 65536 in
theorem codes_eq : words1.filter isCode = codes1 := rfl
theorem w_codes : ∀ c ∈ words1.filter isCode, c.before args0 about1 = true := by
  rw [codes_eq]
  intro c hc
  simp only [codes1, List.mem_cons, List.not_mem_nil, or_false] at hc
  rcases hc with rfl | rfl | rfl | rfl | rfl | rfl | rfl | rfl | rfl | rfl | rfl | rfl | rfl | rfl | rfl | rfl | rfl | rfl | rfl | rfl | rfl | rfl | rfl | rfl | rfl | rfl | rfl | rfl | rfl | rfl | rfl | rfl | rfl | rfl | rfl | rfl | rfl | rfl | rfl
  · exact w_c0
  · exact w_c1
  · exact w_c2
  · exact w_c3
  · exact w_c4
  · exact w_c5
  · exact w_c6
  · exact w_c7
  · exact w_c8
  · exact w_c9
  · exact w_c10
  · exact w_c11
  · exact w_c12
  · exact w_c13
  · exact w_c14
  · exact w_c15
  · exact w_c16
  · exact w_c17
  · exact w_c18
  · exact w_c19
  · exact w_c20
  · exact w_c21
  · exact w_c22
  · exact w_c23
  · exact w_c24
  · exact w_c25
  · exact w_c26
  · exact w_c27
  · exact w_c28
  · exact w_c29
  · exact w_c30
  · exact w_c31
  · exact w_c32
  · exact w_c33
  · exact w_c34
  · exact w_c35
  · exact w_c36
  · exact w_c37
  · exact w_c38
set_option maxRecDepth 65536 in
theorem w_t1 : (words1.take 24).all (fun c => isCode c || c.before args0 about1) = true := by decide +kernel
set_option maxRecDepth 65536 in
theorem w_t2 : ((words1.drop 24).take 24).all (fun c => isCode c || c.before args0 about1) = true := by decide +kernel
set_option maxRecDepth 65536 in
theorem w_t3 : (((words1.drop 24).drop 24).take 24).all (fun c => isCode c || c.before args0 about1) = true := by decide +kernel
set_option maxRecDepth 65536 in
theorem w_t4 : ((((words1.drop 24).drop 24).drop 24).take 24).all (fun c => isCode c || c.before args0 about1) = true := by decide +kernel
set_option maxRecDepth 65536 in
theorem w_t5 : (((((words1.drop 24).drop 24).drop 24).drop 24).take 24).all (fun c => isCode c || c.before args0 about1) = true := by decide +kernel
set_option maxRecDepth 65536 in
theorem w_t6 : ((((((words1.drop 24).drop 24).drop 24).drop 24).drop 24).take 24).all (fun c => isCode c || c.before args0 about1) = true := by decide +kernel
set_option maxRecDepth 65536 in
theorem w_t7 : (((((((words1.drop 24).drop 24).drop 24).drop 24).drop 24).drop 24).take 24).all (fun c => isCode c || c.before args0 about1) = true := by decide +kernel
set_option maxRecDepth 65536 in
theorem w_t8 : ((((((((words1.drop 24).drop 24).drop 24).drop 24).drop 24).drop 24).drop 24).take 24).all (fun c => isCode c || c.before args0 about1) = true := by decide +kernel
set_option maxRecDepth 65536 in
theorem w_t9 : ((((((((words1.drop 24).drop 24).drop 24).drop 24).drop 24).drop 24).drop 24).drop 24).all (fun c => isCode c || c.before args0 about1) = true := by decide +kernel
theorem w_tables : (allAtoms (Jvm.Cond.code x code maxLocals ret :: tables_1)).before args0 about1 = true := by
  rw [allAtoms_all]
  show words1.all (fun c => c.before args0 about1) = true
  refine all_split ?_ w_codes
  rw [← List.take_append_drop 24 words1, List.all_append, w_t1, ← List.take_append_drop 24 (words1.drop 24), List.all_append, w_t2, ← List.take_append_drop 24 ((words1.drop 24).drop 24), List.all_append, w_t3, ← List.take_append_drop 24 (((words1.drop 24).drop 24).drop 24), List.all_append, w_t4, ← List.take_append_drop 24 ((((words1.drop 24).drop 24).drop 24).drop 24), List.all_append, w_t5, ← List.take_append_drop 24 (((((words1.drop 24).drop 24).drop 24).drop 24).drop 24), List.all_append, w_t6, ← List.take_append_drop 24 ((((((words1.drop 24).drop 24).drop 24).drop 24).drop 24).drop 24), List.all_append, w_t7, ← List.take_append_drop 24 (((((((words1.drop 24).drop 24).drop 24).drop 24).drop 24).drop 24).drop 24), List.all_append, w_t8, w_t9]
  rfl
set_option maxRecDepth 65536 in
theorem w_rest : rest_1_c.before args0 about1 = true := by decide +kernel
set_option maxRecDepth 65536 in
theorem w_case : (Jvm.Cond.and given_1 narrow_1).before args0 about1 = true := by decide +kernel
theorem w_applies : (headSpec (Jvm.Cond.code x code maxLocals ret :: tables_1) room_1).applies x e0.platform about1 = true :=
  (Spec.applies_iff w_frames).mpr ⟨w_running, w_runnable, w_alone, w_named, w_hears, w_ripe, w_room, w_tables⟩
theorem atStart : AtStart classFile x code maxLocals ret World_1 tables_1 room_1 Calls_1 rest_1 Pre_1 launch0 p0 e0 about1 theMethod args0 below0 :=
  ⟨lists_1, trivial, launch0.admits_env _ _ _, launch0.least_env, fairChoices_fair.cas, fairChoices_fair.clock, w_frames, w_args, w_heap, w_applies, trivial, w_rest, w_case⟩
end start1
theorem witness_1 : WitnessClaimed_1 := ⟨start1.p0, start1.e0, start1.about1, start1.theMethod, start1.args0, start1.below0, start1.atStart⟩
end Jvm.Pilot.@@N@@
