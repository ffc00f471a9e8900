import JvmDerived
import JvmDerived.Pilot.@@N@@Statement
import JvmDerived.Pilot.@@N@@Code
set_option linter.unusedVariables false
set_option linter.unusedSimpArgs false
@@BLOCK:NumsL.lean.txt@@
namespace Jvm.LM
open Sem ClassFile Op Lib Jvm.Stand Jvm.Free Jvm.LawKit Jvm.RoadKit
/-! A small machine over plain data that mirrors the bytecode of one class and of a law over it. -/
abbrev Lv := List (Option Value)
abbrev St := (Nat → Nat → Int32) × (Nat → Nat → Int64)
abbrev Cd := List (Nat × Instr × Nat)
/-- name, descriptor, kind (0 int, 1 boolean, 2 long, 3+j the j-th array), final -/
abbrev Fe := String × String × Nat × Bool
/-- name, descriptor, number of arguments, return kind (0 none, 1 int, 2 boolean, 3 long), code, max_locals, room: frames, locals -/
abbrev Me := String × String × Nat × Nat × Cd × Nat × Nat × Nat
/-- class name, fields, arrays (kind, length), pool to field, pool to method, pool to constant, methods, pool index of Object's constructor -/
abbrev Cl := String × List (Nat × Fe) × List (Nat × Nat) × List (Nat × Nat) × List (Nat × Nat) × List (Nat × Value) × List (Nat × Me) × Nat
def Me.nm (m : Me) : String := m.1
def Me.ds (m : Me) : String := m.2.1
def Me.na (m : Me) : Nat := m.2.2.1
def Me.rt (m : Me) : Nat := m.2.2.2.1
def Me.cd (m : Me) : Cd := m.2.2.2.2.1
def Me.ml (m : Me) : Nat := m.2.2.2.2.2.1
def Me.rf (m : Me) : Nat := m.2.2.2.2.2.2.1
def Me.rl (m : Me) : Nat := m.2.2.2.2.2.2.2
def Cl.nm (P : Cl) : String := P.1
def Cl.fs (P : Cl) : List (Nat × Fe) := P.2.1
def Cl.al (P : Cl) : List (Nat × Nat) := P.2.2.1
def Cl.fx (P : Cl) : List (Nat × Nat) := P.2.2.2.1
def Cl.mx (P : Cl) : List (Nat × Nat) := P.2.2.2.2.1
def Cl.kx (P : Cl) : List (Nat × Value) := P.2.2.2.2.2.1
def Cl.ms (P : Cl) : List (Nat × Me) := P.2.2.2.2.2.2.1
def Cl.oi (P : Cl) : Nat := P.2.2.2.2.2.2.2
def gI (s : St) (c j : Nat) : Int32 := s.1 c j
def gL (s : St) (c j : Nat) : Int64 := s.2 c j
def sI (s : St) (c j : Nat) (v : Int32) : St := (fun a b => if a = c ∧ b = j then v else s.1 a b, s.2)
def sL (s : St) (c j : Nat) (v : Int64) : St := (s.1, fun a b => if a = c ∧ b = j then v else s.2 a b)
def s0 : St := (fun _ _ => 0, fun _ _ => 0)
def ix (i : Int32) : Nat := i.toNatClampNeg
abbrev inb (n : Nat) (i : Int32) : Prop := 0 ≤ i.toInt ∧ i.toInt < (n : Int)
def asc {α : Type} : List (Nat × α) → Nat → Option α
  | [], _ => none
  | (a, b) :: r, k => match Nat.beq a k with
    | true => some b
    | false => asc r k
def fetch : Cd → Nat → Option (Instr × Nat)
  | [], _ => none
  | (a, b) :: r, k => match Nat.beq a k with
    | true => some b
    | false => fetch r k
def ilen : Instr → Nat
  | .iload _ => 2 | .lload _ => 2 | .aload _ => 2 | .istore _ => 2 | .lstore _ => 2 | .astore _ => 2 | .bipush _ => 2 | .ldc _ => 2 | .newarray _ => 2
  | .sipush _ => 3 | .iinc _ _ => 3 | .goto _ => 3 | .ifCond _ _ => 3 | .if_icmp _ _ => 3 | .getfield _ => 3 | .putfield _ => 3
  | .invokevirtual _ => 3 | .invokespecial _ => 3 | .invokestatic _ => 3 | .new _ => 3 | .ldc2_w _ => 3
  | _ => 1
def isSw : Instr → Bool
  | .tableswitch _ _ _ _ => true
  | _ => false
def clr (ls : Lv) : Nat → Lv
  | 0 => ls
  | j + 1 => match ls[j]? with
    | some (some (.long _)) => ls.set j none
    | some (some (.double _)) => ls.set j none
    | _ => ls
/-- a store into the local variables: a long takes two -/
def stl (ls : Lv) (i : Nat) (v : Value) : Option Lv :=
  match v with
  | .long x => if i + 1 < ls.length then some (((clr ls i).set i (some (.long x))).set (i + 1) none) else none
  | w => if i < ls.length then some ((clr ls i).set i (some w)) else none
def br (cd : ClassFile.Cond) (x y : Int32) (a b : Nat) : Nat :=
  match cd with
  | .eq => if x = y then a else b
  | .ne => if x = y then b else a
  | .lt => if x < y then a else b
  | .ge => if x < y then b else a
  | .gt => if y < x then a else b
  | .le => if y < x then b else a
def jmp (pc : Nat) (o : Int) : Nat := ((pc : Int) + o).toNat
def qstep (i : Instr) (pc : Nat) (st : List Value) : Option (Nat × List Value) :=
  match i with
  | .iconst v => some (pc + 1, .int (Int32.ofInt v) :: st)
  | .bipush v => some (pc + 2, .int (Int8.ofInt v).toInt32 :: st)
  | .sipush v => some (pc + 3, .int (Int16.ofInt v).toInt32 :: st)
  | .lconst k => some (pc + 1, .long (Int64.ofNat k) :: st)
  | .iadd => match st with | .int y :: .int x :: r => some (pc + 1, .int (x + y) :: r) | _ => none
  | .isub => match st with | .int y :: .int x :: r => some (pc + 1, .int (x - y) :: r) | _ => none
  | .imul => match st with | .int y :: .int x :: r => some (pc + 1, .int (x * y) :: r) | _ => none
  | .iand => match st with | .int y :: .int x :: r => some (pc + 1, .int (x &&& y) :: r) | _ => none
  | .ior => match st with | .int y :: .int x :: r => some (pc + 1, .int (x ||| y) :: r) | _ => none
  | .ixor => match st with | .int y :: .int x :: r => some (pc + 1, .int (x ^^^ y) :: r) | _ => none
  | .ishl => match st with | .int y :: .int x :: r => some (pc + 1, .int (x <<< (y &&& 31)) :: r) | _ => none
  | .ishr => match st with | .int y :: .int x :: r => some (pc + 1, .int (x >>> (y &&& 31)) :: r) | _ => none
  | .iushr => match st with | .int y :: .int x :: r => some (pc + 1, .int (XT.ushr x y) :: r) | _ => none
  | .idiv => match st with | .int y :: .int x :: r => if y = 0 then none else some (pc + 1, .int (x / y) :: r) | _ => none
  | .irem => match st with | .int y :: .int x :: r => if y = 0 then none else some (pc + 1, .int (x % y) :: r) | _ => none
  | .ineg => match st with | .int x :: r => some (pc + 1, .int (-x) :: r) | _ => none
  | .ladd => match st with | .long y :: .long x :: r => some (pc + 1, .long (x + y) :: r) | _ => none
  | .lsub => match st with | .long y :: .long x :: r => some (pc + 1, .long (x - y) :: r) | _ => none
  | .lmul => match st with | .long y :: .long x :: r => some (pc + 1, .long (x * y) :: r) | _ => none
  | .land => match st with | .long y :: .long x :: r => some (pc + 1, .long (x &&& y) :: r) | _ => none
  | .lor => match st with | .long y :: .long x :: r => some (pc + 1, .long (x ||| y) :: r) | _ => none
  | .lxor => match st with | .long y :: .long x :: r => some (pc + 1, .long (x ^^^ y) :: r) | _ => none
  | .lshl => match st with | .int y :: .long x :: r => some (pc + 1, .long (x <<< (y.toInt64 &&& 63)) :: r) | _ => none
  | .lshr => match st with | .int y :: .long x :: r => some (pc + 1, .long (x >>> (y.toInt64 &&& 63)) :: r) | _ => none
  | .lushr => match st with | .int y :: .long x :: r => some (pc + 1, .long (XT.ushrL x y) :: r) | _ => none
  | .ldiv => match st with | .long y :: .long x :: r => if y = 0 then none else some (pc + 1, .long (x / y) :: r) | _ => none
  | .lneg => match st with | .long x :: r => some (pc + 1, .long (-x) :: r) | _ => none
  | .lcmp => match st with | .long y :: .long x :: r => some (pc + 1, .int (XT.cmpL x y) :: r) | _ => none
  | .i2l => match st with | .int x :: r => some (pc + 1, .long x.toInt64 :: r) | _ => none
  | .l2i => match st with | .long x :: r => some (pc + 1, .int x.toInt32 :: r) | _ => none
  | .dup => match st with | .int x :: r => some (pc + 1, .int x :: .int x :: r) | .ref x :: r => some (pc + 1, .ref x :: .ref x :: r) | _ => none
  | .pop => match st with | .int _ :: r => some (pc + 1, r) | .ref _ :: r => some (pc + 1, r) | _ => none
  | .goto o => if 0 ≤ (pc : Int) + o then some (jmp pc o, st) else none
  | .ifCond cd o => match st with | .int x :: r => if 0 ≤ (pc : Int) + o then some (br cd x 0 (jmp pc o) (pc + 3), r) else none | _ => none
  | .if_icmp cd o => match st with | .int y :: .int x :: r => if 0 ≤ (pc : Int) + o then some (br cd x y (jmp pc o) (pc + 3), r) else none | _ => none
  | .tableswitch d lo hi offs => match st with
    | .int x :: r => if x.toInt < lo ∨ x.toInt > hi then (if 0 ≤ (pc : Int) + d then some (jmp pc d, r) else none)
      else (match offs[(x.toInt - lo).toNat]? with | some o => if 0 ≤ (pc : Int) + o then some (jmp pc o, r) else none | none => none)
    | _ => none
  | _ => none
def pstep (i : Instr) (pc : Nat) (ls : Lv) (st : List Value) : Option (Nat × Lv × List Value) :=
  match i with
  | .iload_n k => match ls[k.val]? with | some (some (.int v)) => some (pc + 1, ls, .int v :: st) | _ => none
  | .iload k => match ls[k]? with | some (some (.int v)) => some (pc + 2, ls, .int v :: st) | _ => none
  | .lload_n k => match ls[k.val]? with | some (some (.long v)) => some (pc + 1, ls, .long v :: st) | _ => none
  | .lload k => match ls[k]? with | some (some (.long v)) => some (pc + 2, ls, .long v :: st) | _ => none
  | .aload_n k => match ls[k.val]? with | some (some (.ref v)) => some (pc + 1, ls, .ref v :: st) | _ => none
  | .aload k => match ls[k]? with | some (some (.ref v)) => some (pc + 2, ls, .ref v :: st) | _ => none
  | .istore_n k => match st with | .int v :: r => (match stl ls k.val (.int v) with | some l => some (pc + 1, l, r) | none => none) | _ => none
  | .istore k => match st with | .int v :: r => (match stl ls k (.int v) with | some l => some (pc + 2, l, r) | none => none) | _ => none
  | .lstore_n k => match st with | .long v :: r => (match stl ls k.val (.long v) with | some l => some (pc + 1, l, r) | none => none) | _ => none
  | .lstore k => match st with | .long v :: r => (match stl ls k (.long v) with | some l => some (pc + 2, l, r) | none => none) | _ => none
  | .astore_n k => match st with | .ref v :: r => (match stl ls k.val (.ref v) with | some l => some (pc + 1, l, r) | none => none) | _ => none
  | .astore k => match st with | .ref v :: r => (match stl ls k (.ref v) with | some l => some (pc + 2, l, r) | none => none) | _ => none
  | .iinc k d => match ls[k]? with | some (some (.int v)) => (match stl ls k (.int (v + Int32.ofInt d)) with | some l => some (pc + 3, l, st) | none => none) | _ => none
  | i => match qstep i pc st with | some (pc', st') => some (pc', ls, st') | none => none
/-- how the machine's references stand in the heap -/
def va (ρ : Nat → Nat) : Value → Value
  | .ref c => .ref (ρ c)
  | v => v
def WF (L : Array Slot) : Prop :=
  (∀ (k : Nat) (v : Value), L[k]? = some (Slot.val v) → v.category = 2 → L[k + 1]? = some .second) ∧
  (∀ k : Nat, L[k + 1]? = some Slot.second → ∃ v : Value, L[k]? = some (Slot.val v) ∧ v.category = 2) ∧ L[0]? ≠ some Slot.second
def LR (ρ : Nat → Nat) (ls : Lv) (L : Array Slot) : Prop :=
  L.size = ls.length ∧ (∀ (k : Nat) (v : Value), ls[k]? = some (some v) → L[k]? = some (Slot.val (va ρ v))) ∧ WF L
end Jvm.LM

namespace Jvm.LM
open Sem ClassFile Op Lib Jvm.Stand Jvm.Free Jvm.LawKit Jvm.RoadKit
/-! the local variables -/
def upd (f : Nat → Option Slot) (i : Nat) (x : Slot) : Nat → Option Slot := fun k => if k = i then some x else f k
def WFf (f : Nat → Option Slot) : Prop :=
  (∀ k v, f k = some (.val v) → v.category = 2 → f (k + 1) = some .second) ∧
  (∀ k, f (k + 1) = some .second → ∃ v, f k = some (.val v) ∧ v.category = 2) ∧ f 0 ≠ some .second
def clearF (f : Nat → Option Slot) (i : Nat) : Nat → Option Slot :=
  match f i with
  | some .second => upd (upd f (i - 1) .unset) i .unset
  | some (.val old) => if old.category = 2 then upd (upd f (i + 1) .unset) i .unset else upd f i .unset
  | _ => f
theorem clearF_cases (f : Nat → Option Slot) (i : Nat) : (f i = some .second ∧ clearF f i = upd (upd f (i - 1) .unset) i .unset) ∨ (∃ old, f i = some (.val old) ∧ old.category = 2 ∧ clearF f i = upd (upd f (i + 1) .unset) i .unset) ∨
    (∃ old, f i = some (.val old) ∧ old.category ≠ 2 ∧ clearF f i = upd f i .unset) ∨ ((f i = some .unset ∨ f i = none) ∧ clearF f i = f) := by
  cases h : f i with
  | none => exact Or.inr (Or.inr (Or.inr ⟨Or.inr rfl, by simp only [clearF, h]⟩))
  | some x =>
    cases x with
    | unset => exact Or.inr (Or.inr (Or.inr ⟨Or.inl rfl, by simp only [clearF, h]⟩))
    | second => exact Or.inl ⟨rfl, by simp only [clearF, h]⟩
    | val old =>
      by_cases hc : old.category = 2
      · exact Or.inr (Or.inl ⟨old, rfl, hc, by simp only [clearF, h]; rw [if_pos hc]⟩)
      · exact Or.inr (Or.inr (Or.inl ⟨old, rfl, hc, by simp only [clearF, h]; rw [if_neg hc]⟩))
theorem wff_clear {f : Nat → Option Slot} (h : WFf f) (i : Nat) : WFf (clearF f i) := by
  obtain ⟨h1, h2, h3⟩ := h
  unfold clearF
  split
  · rename_i e
    cases i with
    | zero => exact absurd e h3
    | succ j =>
      refine ⟨fun k v hk hc => ?_, fun k hk => ?_, ?_⟩
      · simp only [upd, Nat.add_sub_cancel] at hk ⊢
        have := h1 k v
        by_cases a : k = j + 1
        · simp [a] at hk
        · by_cases b : k = j
          · simp [b] at hk
          · have c : k + 1 ≠ j + 1 := by omega
            simp only [a, b, if_false] at hk
            by_cases d : k + 1 = j
            · have := h1 k v hk hc
              obtain ⟨w, hw, hw2⟩ := h2 j e
              rw [d, hw] at this; cases this
            · simp [c, d, b, h1 k v hk hc]
      · simp only [upd, Nat.add_sub_cancel] at hk ⊢
        by_cases a : k = j
        · simp [a] at hk
        · by_cases b : k + 1 = j
          · simp [b] at hk
          · simp only [show ¬ (k + 1 = j + 1) by omega, b, if_false] at hk
            obtain ⟨w, hw, hw2⟩ := h2 k hk
            by_cases d : k = j + 1
            · rw [d, e] at hw; cases hw
            · exact ⟨w, by simp [d, a, hw], hw2⟩
      · simp only [upd, Nat.add_sub_cancel]
        by_cases b : 0 = j
        · simp [← b]
        · simp [b, h3]
  · rename_i old e
    split
    · rename_i hc2
      have e2 := h1 i old e hc2
      refine ⟨fun k v hk hc => ?_, fun k hk => ?_, ?_⟩
      · simp only [upd] at hk ⊢
        by_cases a : k = i
        · simp [a] at hk
        · by_cases b : k = i + 1
          · simp [b] at hk
          · simp only [a, b, if_false] at hk
            have q := h1 k v hk hc
            by_cases d : k + 1 = i
            · rw [d, e] at q; cases q
            · simp [d, a, show ¬ (k + 1 = i + 1) by omega, q]
      · simp only [upd] at hk ⊢
        by_cases a : k + 1 = i
        · simp [a] at hk
        · by_cases b : k = i
          · simp [b] at hk
          · simp only [a, show ¬ (k + 1 = i + 1) by omega, if_false] at hk
            obtain ⟨w, hw, hw2⟩ := h2 k hk
            by_cases d : k = i + 1
            · rw [d, e2] at hw; cases hw
            · exact ⟨w, by simp [d, b, hw], hw2⟩
      · simp only [upd]
        by_cases b : 0 = i
        · simp [← b]
        · simp [b, h3]
    · rename_i hc2
      refine ⟨fun k v hk hc => ?_, fun k hk => ?_, ?_⟩
      · simp only [upd] at hk ⊢
        by_cases a : k = i
        · simp [a] at hk
        · simp only [a, if_false] at hk
          have q := h1 k v hk hc
          by_cases d : k + 1 = i
          · rw [d, e] at q; cases q
          · simp [d, q]
      · simp only [upd] at hk ⊢
        by_cases a : k + 1 = i
        · simp [a] at hk
        · simp only [a, if_false] at hk
          obtain ⟨w, hw, hw2⟩ := h2 k hk
          by_cases d : k = i
          · rw [d, e] at hw; cases hw; exact absurd hw2 hc2
          · exact ⟨w, by simp [d, hw], hw2⟩
      · simp only [upd]
        by_cases b : 0 = i
        · simp [← b]
        · simp [b, h3]
  · exact ⟨h1, h2, h3⟩
theorem wff_one {f : Nat → Option Slot} (h : WFf f) {i : Nat} (e : f i = some .unset) {v : Value} (hv : v.category ≠ 2) : WFf (upd f i (.val v)) := by
  obtain ⟨h1, h2, h3⟩ := h
  refine ⟨fun k w hk hc => ?_, fun k hk => ?_, ?_⟩
  · simp only [upd] at hk ⊢
    by_cases a : k = i
    · simp only [a, if_true, Option.some.injEq, Slot.val.injEq] at hk; subst hk; exact absurd hc hv
    · simp only [a, if_false] at hk
      have q := h1 k w hk hc
      by_cases d : k + 1 = i
      · rw [d, e] at q; cases q
      · simp [d, q]
  · simp only [upd] at hk ⊢
    by_cases a : k + 1 = i
    · simp [a] at hk
    · simp only [a, if_false] at hk
      obtain ⟨w, hw, hw2⟩ := h2 k hk
      by_cases d : k = i
      · rw [d, e] at hw; cases hw
      · exact ⟨w, by simp [d, hw], hw2⟩
  · simp only [upd]
    by_cases b : 0 = i
    · simp [← b]
    · simp [b, h3]
theorem wff_two {f : Nat → Option Slot} (h : WFf f) {i : Nat} (e : f i = some .unset) (e' : f (i + 1) = some .unset) {v : Value} (hv : v.category = 2) : WFf (upd (upd f i (.val v)) (i + 1) .second) := by
  obtain ⟨h1, h2, h3⟩ := h
  refine ⟨fun k w hk hc => ?_, fun k hk => ?_, ?_⟩
  · simp only [upd] at hk ⊢
    by_cases a : k = i + 1
    · simp [a] at hk
    · by_cases b : k = i
      · simp [b]
      · simp only [a, b, if_false] at hk
        have q := h1 k w hk hc
        by_cases d : k + 1 = i
        · rw [d, e] at q; cases q
        · simp [d, show ¬ (k + 1 = i + 1) by omega, q]
  · simp only [upd] at hk ⊢
    by_cases a : k = i
    · exact ⟨v, by simp [a], hv⟩
    · by_cases b : k + 1 = i
      · simp [b] at hk
      · simp only [show ¬ (k + 1 = i + 1) by omega, b, if_false] at hk
        obtain ⟨w, hw, hw2⟩ := h2 k hk
        by_cases d : k = i + 1
        · rw [d, e'] at hw; cases hw
        · exact ⟨w, by simp [d, a, hw], hw2⟩
  · simp only [upd]
    by_cases b : 0 = i
    · simp [← b]
    · simp [b, h3]
theorem gset (L : Array Slot) {i : Nat} (hi : i < L.size) (x : Slot) : (fun k => (L.setIfInBounds i x)[k]?) = upd (fun k => L[k]?) i x := by
  funext k
  simp only [upd, Array.getElem?_setIfInBounds]
  by_cases a : i = k
  · subst a; simp [hi]
  · simp [a, show ¬ k = i from fun h => a h.symm]
theorem sl_eq (L : Array Slot) (i : Nat) (v : Value) : storeLocals L i v = (L[i]?).bind (fun x => match x with
    | .second => (setAt L (i - 1) .unset).bind (fun l => storeSelf l i v)
    | .val old => if old.category = 2 then (setAt L (i + 1) .unset).bind (fun l => storeSelf l i v) else storeSelf L i v
    | .unset => storeSelf L i v) := rfl
theorem ss_eq (L : Array Slot) (i : Nat) (v : Value) : storeSelf L i v = (setAt L i (.val v)).bind (fun l => if v.category = 2 then (l[i + 1]?).bind (fun x => match x with
    | .val old => if old.category = 2 then (setAt l (i + 2) .unset).bind (fun l' => setAt l' (i + 1) .second) else setAt l (i + 1) .second
    | _ => setAt l (i + 1) .second) else some l) := rfl
theorem sa_eq {L : Array Slot} {i : Nat} (hi : i < L.size) (x : Slot) : setAt L i x = some (L.setIfInBounds i x) := if_pos hi
theorem upd_upd (f : Nat → Option Slot) (i : Nat) (x y : Slot) : upd (upd f i x) i y = upd f i y := by
  funext k; simp only [upd]; split <;> rfl
/-- what a store clears first -/
theorem clear_ok {L : Array Slot} (hW : WF L) {i : Nat} (hi : i < L.size) (v : Value) : ∃ L1, storeLocals L i v = storeSelf L1 i v ∧ L1.size = L.size ∧ upd (fun k => L1[k]?) i .unset = upd (clearF (fun k => L[k]?) i) i .unset := by
  have hh : WFf (fun k => L[k]?) := hW
  obtain ⟨sl, hsl⟩ : ∃ sl, L[i]? = some sl := ⟨L[i], Array.getElem?_eq_getElem hi⟩
  rw [sl_eq, hsl, Option.bind_some]
  cases sl with
  | unset => exact ⟨L, rfl, rfl, by simp only [clearF, hsl]⟩
  | second =>
    refine ⟨L.setIfInBounds (i - 1) .unset, ?_, by simp, ?_⟩
    · show (setAt L (i - 1) .unset).bind _ = _
      rw [sa_eq (by omega)]; rfl
    · rw [gset _ (by omega)]; simp only [clearF, hsl, upd_upd]
  | val old =>
    by_cases hc : old.category = 2
    · have h2 := hh.1 i old hsl hc
      have hlt : i + 1 < L.size := (Array.getElem?_eq_some_iff.mp h2).1
      refine ⟨L.setIfInBounds (i + 1) .unset, ?_, by simp, ?_⟩
      · show (if old.category = 2 then _ else _) = _
        rw [if_pos hc, sa_eq hlt]; rfl
      · rw [gset _ hlt]; simp only [clearF, hsl, hc, if_true, upd_upd]
    · refine ⟨L, ?_, rfl, ?_⟩
      · show (if old.category = 2 then _ else _) = _
        rw [if_neg hc]
      · simp only [clearF, hsl, hc, if_false, upd_upd]
theorem clearF_at {f : Nat → Option Slot} {i : Nat} (hi : f i ≠ none) : clearF f i i = some .unset := by
  rcases clearF_cases f i with ⟨h1, h2⟩ | ⟨old, h1, h3, h2⟩ | ⟨old, h1, h3, h2⟩ | ⟨h1 | h1, h2⟩
  · rw [h2]; simp [upd]
  · rw [h2]; simp [upd]
  · rw [h2]; simp [upd]
  · rw [h2]; exact h1
  · exact absurd h1 hi
theorem clearF_self {f : Nat → Option Slot} {i : Nat} (hi : f i ≠ none) : upd (clearF f i) i .unset = clearF f i := by
  funext k; simp only [upd]; split
  · rename_i e; rw [e]; exact (clearF_at hi).symm
  · rfl
/-- the other variables: kept, or they held (a part of) a long -/
theorem clearF_keep {f : Nat → Option Slot} (h : WFf f) {i k : Nat} {w : Value} (hk : k ≠ i) (e : f k = some (.val w)) (hw : k + 1 = i → w.category ≠ 2) : clearF f i k = some (.val w) := by
  rcases clearF_cases f i with ⟨e2, h2⟩ | ⟨old, e2, hc, h2⟩ | ⟨old, e2, hc, h2⟩ | ⟨-, h2⟩
  · rw [h2]
    cases i with
    | zero => exact absurd e2 h.2.2
    | succ j =>
      simp only [upd, Nat.add_sub_cancel, hk, if_false]
      split
      · rename_i hj; subst hj
        obtain ⟨v, hv, hv2⟩ := h.2.1 k e2
        rw [e] at hv; cases hv; exact absurd hv2 (hw rfl)
      · exact e
  · rw [h2]
    have q := h.1 i old e2 hc
    simp only [upd, hk, if_false]
    split
    · rename_i hj; rw [hj, q] at e; cases e
    · exact e
  · rw [h2]; simp [upd, hk, e]
  · rw [h2]; exact e
theorem store_one {L : Array Slot} (hW : WF L) {i : Nat} (hi : i < L.size) {v : Value} (hv : v.category ≠ 2) :
    ∃ L', storeLocals L i v = some L' ∧ L'.size = L.size ∧ WF L' ∧ (fun k => L'[k]?) = upd (clearF (fun k => L[k]?) i) i (.val v) := by
  obtain ⟨L1, h1, h2, h3⟩ := clear_ok hW hi v
  have hne : (fun k => L[k]?) i ≠ none := by simp; omega
  have hi1 : i < L1.size := by omega
  refine ⟨L1.setIfInBounds i (.val v), ?_, by simp [h2], ?_, ?_⟩
  · rw [h1, ss_eq, sa_eq hi1, Option.bind_some, if_neg hv]
  · have q : (fun k => (L1.setIfInBounds i (.val v))[k]?) = upd (clearF (fun k => L[k]?) i) i (.val v) := by
      rw [gset _ hi1, ← upd_upd _ i .unset, h3, upd_upd]
    have w : WFf (fun k => (L1.setIfInBounds i (.val v))[k]?) := by
      rw [q]; exact wff_one (wff_clear hW i) (clearF_at hne) hv
    exact w
  · rw [gset _ hi1, ← upd_upd _ i .unset, h3, upd_upd]
theorem store_two {L : Array Slot} (hW : WF L) {i : Nat} (hi : i + 1 < L.size) {v : Value} (hv : v.category = 2) :
    ∃ L', storeLocals L i v = some L' ∧ L'.size = L.size ∧ WF L' ∧ (fun k => L'[k]?) = upd (upd (clearF (clearF (fun k => L[k]?) i) (i + 1)) i (.val v)) (i + 1) .second := by
  obtain ⟨L1, h1, h2, h3⟩ := clear_ok hW (show i < L.size by omega) v
  have hne : (fun k => L[k]?) i ≠ none := by simp; omega
  have hi1 : i < L1.size := by omega
  have hi2 : i + 1 < L1.size := by omega
  rw [clearF_self hne] at h3
  have hWc := wff_clear (f := fun k => L[k]?) hW i
  generalize hF : clearF (fun k => L[k]?) i = F at *
  have hFi : F i = some .unset := by rw [← hF]; exact clearF_at hne
  have g1 : (fun k => (L1.setIfInBounds i (.val v))[k]?) = upd F i (.val v) := by rw [gset _ hi1, ← upd_upd _ i .unset, h3]
  have g2 : (L1.setIfInBounds i (.val v))[i + 1]? = F (i + 1) := by
    have := congrFun g1 (i + 1); simpa [upd] using this
  have hFi1 : F (i + 1) ≠ none := by
    have : (L1.setIfInBounds i (.val v))[i + 1]? ≠ none := by simp; omega
    rw [g2] at this; exact this
  have hns : F (i + 1) ≠ some .second := fun q => by
    obtain ⟨w, hw, -⟩ := hWc.2.1 i q
    rw [hFi] at hw; cases hw
  have key : ∀ G : Nat → Option Slot, WFf G → G i = some .unset → G (i + 1) = some .unset → G = clearF F (i + 1) → WFf (upd (upd (clearF F (i + 1)) i (.val v)) (i + 1) .second) := fun G hG a b e => by rw [← e]; exact wff_two hG a b hv
  have hcl := wff_clear hWc (i + 1)
  have hcli : clearF F (i + 1) i = some .unset := by
    rcases clearF_cases F (i + 1) with ⟨q, h2⟩ | ⟨old, q, hc, h2⟩ | ⟨old, q, hc, h2⟩ | ⟨-, h2⟩
    · exact absurd q hns
    · rw [h2]; simp [upd, hFi]
    · rw [h2]; simp [upd, hFi]
    · rw [h2]; exact hFi
  have hWF := wff_two hcl hcli (clearF_at hFi1) hv
  rw [h1, ss_eq, sa_eq hi1, Option.bind_some, if_pos hv, g2]
  cases hx : F (i + 1) with
  | none => exact absurd hx hFi1
  | some sl =>
    cases sl with
    | second => exact absurd hx hns
    | unset =>
      have e1 : clearF F (i + 1) = F := by simp only [clearF, hx]
      have e3 : (fun k => ((L1.setIfInBounds i (.val v)).setIfInBounds (i + 1) .second)[k]?) = upd (upd (clearF F (i + 1)) i (.val v)) (i + 1) .second := by
        rw [gset _ (by simpa using hi2), g1, e1]
      refine ⟨(L1.setIfInBounds i (.val v)).setIfInBounds (i + 1) .second, ?_, by simp [h2], ?_, e3⟩
      · show setAt _ (i + 1) .second = _
        rw [sa_eq (by simpa using hi2)]
      · have w : WFf (fun k => ((L1.setIfInBounds i (.val v)).setIfInBounds (i + 1) .second)[k]?) := by rw [e3]; exact hWF
        exact w
    | val old =>
      by_cases hc : old.category = 2
      · have q := hWc.1 _ _ hx hc
        have hi3 : i + 2 < L1.size := by
          have q2 : (L1.setIfInBounds i (.val v))[i + 2]? = some .second := by
            have := congrFun g1 (i + 2); simpa [upd, q] using this
          have := (Array.getElem?_eq_some_iff.mp q2).1
          simpa using this
        have e1 : clearF F (i + 1) = upd (upd F (i + 2) .unset) (i + 1) .unset := by simp only [clearF, hx, hc, if_true]
        have e3 : (fun k => (((L1.setIfInBounds i (.val v)).setIfInBounds (i + 2) .unset).setIfInBounds (i + 1) .second)[k]?) = upd (upd (clearF F (i + 1)) i (.val v)) (i + 1) .second := by
          rw [gset _ (by simpa using hi2), gset _ (by simpa using hi3), g1, e1]
          funext k; simp only [upd]
          by_cases a : k = i + 1
          · simp [a]
          · by_cases b : k = i
            · simp [b]
            · simp [a, b]
        refine ⟨((L1.setIfInBounds i (.val v)).setIfInBounds (i + 2) .unset).setIfInBounds (i + 1) .second, ?_, by simp [h2], ?_, e3⟩
        · show (if old.category = 2 then _ else _) = _
          rw [if_pos hc, sa_eq (by simpa using hi3), Option.bind_some, sa_eq (by simpa using hi2)]
        · have w : WFf (fun k => (((L1.setIfInBounds i (.val v)).setIfInBounds (i + 2) .unset).setIfInBounds (i + 1) .second)[k]?) := by rw [e3]; exact hWF
          exact w
      · have e1 : clearF F (i + 1) = upd F (i + 1) .unset := by simp only [clearF, hx, hc, if_false]
        have e3 : (fun k => ((L1.setIfInBounds i (.val v)).setIfInBounds (i + 1) .second)[k]?) = upd (upd (clearF F (i + 1)) i (.val v)) (i + 1) .second := by
          rw [gset _ (by simpa using hi2), g1, e1]
          funext k; simp only [upd]
          by_cases a : k = i + 1
          · simp [a]
          · by_cases b : k = i
            · simp [b]
            · simp [a, b]
        refine ⟨(L1.setIfInBounds i (.val v)).setIfInBounds (i + 1) .second, ?_, by simp [h2], ?_, e3⟩
        · show (if old.category = 2 then _ else _) = _
          rw [if_neg hc, sa_eq (by simpa using hi2)]
        · have w : WFf (fun k => ((L1.setIfInBounds i (.val v)).setIfInBounds (i + 1) .second)[k]?) := by rw [e3]; exact hWF
          exact w
theorem cat_va (ρ : Nat → Nat) (v : Value) : (va ρ v).category = v.category := by cases v <;> rfl
theorem clr_len (ls : Lv) (i : Nat) : (clr ls i).length = ls.length := by
  cases i with
  | zero => rfl
  | succ j => simp only [clr]; split <;> simp
theorem clr_get {ls : Lv} {i k : Nat} {v : Value} (h : (clr ls i)[k]? = some (some v)) : ls[k]? = some (some v) ∧ (k + 1 = i → v.category ≠ 2) := by
  cases i with
  | zero => exact ⟨h, fun q => by omega⟩
  | succ j =>
    simp only [clr] at h
    split at h
    · rename_i x e
      rw [List.getElem?_set] at h
      split at h
      · rename_i hj; subst hj; split at h <;> simp at h
      · rename_i hj; exact ⟨h, fun q => by omega⟩
    · rename_i x e
      rw [List.getElem?_set] at h
      split at h
      · rename_i hj; subst hj; split at h <;> simp at h
      · rename_i hj; exact ⟨h, fun q => by omega⟩
    · rename_i e1 e2
      refine ⟨h, fun q hc => ?_⟩
      have hk : k = j := by omega
      subst hk
      cases v <;> first | exact e1 _ h | exact e2 _ h | (exact Nat.noConfusion (Nat.succ.inj hc))
theorem store_ok {ρ : Nat → Nat} {ls ls' : Lv} {L : Array Slot} {i : Nat} {v : Value} (hL : LR ρ ls L) (hd : ∀ x, v ≠ .double x) (h : stl ls i v = some ls') : ∃ L', storeLocals L i (va ρ v) = some L' ∧ LR ρ ls' L' ∧ L'.size = L.size := by
  obtain ⟨hz, hr, hW⟩ := hL
  have hWf : WFf (fun k => L[k]?) := hW
  by_cases hc : v.category = 2
  · obtain ⟨x, rfl⟩ : ∃ x, v = .long x := by cases v <;> simp [Value.category] at hc <;> first | exact ⟨_, rfl⟩ | exact absurd rfl (hd _)
    simp only [stl] at h
    split at h
    · rename_i hi
      cases h
      obtain ⟨L', a1, a2, a3, a4⟩ := store_two hW (show i + 1 < L.size by omega) (v := va ρ (.long x)) rfl
      refine ⟨L', a1, ⟨by simp [a2, hz, clr_len], fun k w hk => ?_, a3⟩, a2⟩
      have q : L'[k]? = _ := congrFun a4 k
      rw [q]
      rw [List.getElem?_set] at hk
      split at hk
      · simp at hk
      · rename_i hk1
        rw [List.getElem?_set] at hk
        split at hk
        · rename_i hk2; subst hk2
          simp only [clr_len] at hk
          split at hk
          · cases hk; simp [upd]
          · simp at hk
        · rename_i hk2
          obtain ⟨b1, b2⟩ := clr_get hk
          have b3 := hr _ _ b1
          have b4 : clearF (fun k => L[k]?) i k = some (.val (va ρ w)) := clearF_keep hWf (fun q => hk2 q.symm) b3 (fun q => by rw [cat_va]; exact b2 q)
          have b5 := clearF_keep (wff_clear hWf i) (i := i + 1) (fun q => hk1 q.symm) b4 (fun q => absurd (Nat.succ.inj q) fun z => hk2 z.symm)
          simp only [upd, show ¬ k = i + 1 from fun q => hk1 q.symm, show ¬ k = i from fun q => hk2 q.symm, if_false]
          exact b5
    · cases h
  · have hs : stl ls i v = if i < ls.length then some ((clr ls i).set i (some v)) else none := by cases v <;> first | rfl | exact absurd rfl hc
    rw [hs] at h
    split at h
    · rename_i hi
      cases h
      obtain ⟨L', a1, a2, a3, a4⟩ := store_one hW (show i < L.size by omega) (v := va ρ v) (by rw [cat_va]; exact hc)
      refine ⟨L', a1, ⟨by simp [a2, hz, clr_len], fun k w hk => ?_, a3⟩, a2⟩
      have q : L'[k]? = _ := congrFun a4 k
      rw [q]
      rw [List.getElem?_set] at hk
      split at hk
      · rename_i hk2; subst hk2
        simp only [clr_len] at hk
        split at hk
        · cases hk; simp [upd]
        · omega
      · rename_i hk2
        obtain ⟨b1, b2⟩ := clr_get hk
        have b3 := hr _ _ b1
        have b4 : clearF (fun k => L[k]?) i k = some (.val (va ρ w)) := clearF_keep hWf (fun q => hk2 q.symm) b3 (fun q => by rw [cat_va]; exact b2 q)
        simp only [upd, show ¬ k = i from fun q => hk2 q.symm, if_false]
        exact b4
    · cases h
end Jvm.LM

namespace Jvm.LM
open Sem ClassFile Op Lib Jvm.Stand Jvm.Free Jvm.LawKit Jvm.RoadKit
section Pure
variable {p : Program} {l : Launch} {e : Env} {R : Room} {s : State} {m : MethodId} {args : Array Value} {below : List Frame} {meth : Method} {c : Code} {T : State} {locs : List Loc} {cells slots : Nat}
theorem br_eq (cd : ClassFile.Cond) (x y : Int32) (a b : Nat) : br cd x y a b = if if_icmp.holds cd x y = true then a else b := by
  cases cd <;> simp only [br]
  · by_cases h : x = y <;> simp [h, XT.ii_eq_t, XT.ii_eq_f]
  · by_cases h : x = y
    · rw [if_pos h, XT.ii_ne_f h]; rfl
    · rw [if_neg h, XT.ii_ne_t h]; rfl
  · by_cases h : x < y
    · rw [if_pos h, XT.ii_lt_t h]; rfl
    · rw [if_neg h, XT.ii_lt_f h]; rfl
  · by_cases h : x < y
    · rw [if_pos h, XT.ii_ge_f h]; rfl
    · rw [if_neg h, XT.ii_ge_t h]; rfl
  · by_cases h : y < x
    · rw [if_pos h, XT.ii_gt_t h]; rfl
    · rw [if_neg h, XT.ii_gt_f h]; rfl
  · by_cases h : y < x
    · rw [if_pos h, XT.ii_le_f h]; rfl
    · rw [if_neg h, XT.ii_le_t h]; rfl
theorem qstep_sound (X : Stand p l e R s m args below meth c T locs cells slots) (hx : p.tables.exec = Jvm.exec) {ρ : Nat → Nat} {i : Instr} {n pc pc' : Nat} {st st' : List Value}
    (h : qstep i pc st = some (pc', st')) (hd : decode c.code pc = .ok (i, n)) (hn : isSw i = true ∨ n = ilen i) {L : Array Slot} :
    ∀ target, Steps p.tables e below (T.setTop (mkF m pc' L (st'.map (va ρ)))) target → Steps p.tables e below (T.setTop (mkF m pc L (st.map (va ρ)))) target := by
  by_cases hsw : isSw i = true
  · cases i <;> first | exact absurd hsw Bool.false_ne_true | skip
    rename_i d lo hi offs
    simp only [qstep] at h
    split at h
    · rename_i x r
      split at h
      · rename_i e1
        split at h
        · rename_i e2; cases h; exact fun t q => X.tableswitchOut hx (g := mkF m pc L (.int x :: List.map (va ρ) _)) rfl rfl hd e1 e2 t q
        · cases h
      · rename_i e1
        split at h
        · rename_i o e2
          split at h
          · rename_i e3; cases h; exact fun t q => X.tableswitchIn hx (g := mkF m pc L (.int x :: List.map (va ρ) _)) rfl rfl hd e1 e2 e3 t q
          · cases h
        · cases h
    · cases h
  obtain rfl := hn.resolve_left hsw
  unfold qstep at h
  split at h
  -- constants
  · cases h; exact fun t q => XS.iconst X.here hx rfl hd q
  · cases h; exact fun t q => XS.bipush X.here hx rfl hd q
  · cases h; exact fun t q => XS.sipush X.here hx rfl hd q
  · cases h; exact fun t q => XT.lconst X.here hx rfl hd q
  -- ints
  · split at h
    · cases h; exact fun t q => XS.iadd X.here hx rfl hd rfl q
    · cases h
  · split at h
    · cases h; exact fun t q => XS.isub X.here hx rfl hd rfl q
    · cases h
  · split at h
    · cases h; exact fun t q => XS.imul X.here hx rfl hd rfl q
    · cases h
  · split at h
    · cases h; exact fun t q => XS.iand X.here hx rfl hd rfl q
    · cases h
  · split at h
    · cases h; exact fun t q => XT.ior X.here hx rfl hd rfl q
    · cases h
  · split at h
    · cases h; exact fun t q => XT.ixor X.here hx rfl hd rfl q
    · cases h
  · split at h
    · cases h; exact fun t q => XT.ishl X.here hx rfl hd rfl q
    · cases h
  · split at h
    · cases h; exact fun t q => XT.ishr X.here hx rfl hd rfl q
    · cases h
  · split at h
    · cases h; exact fun t q => XT.iushr X.here hx rfl hd rfl q
    · cases h
  · split at h
    · split at h
      · cases h
      · rename_i e1; cases h; exact fun t q => XS.idiv X.here hx rfl hd rfl e1 q
    · cases h
  · split at h
    · split at h
      · cases h
      · rename_i e1; cases h; exact fun t q => iremM X hx rfl hd rfl e1 q
    · cases h
  · split at h
    · cases h; exact fun t q => XS.ineg X.here hx rfl hd rfl q
    · cases h
  -- longs
  · split at h
    · cases h; exact fun t q => XT.ladd X.here hx rfl hd rfl q
    · cases h
  · split at h
    · cases h; exact fun t q => XT.lsub X.here hx rfl hd rfl q
    · cases h
  · split at h
    · cases h; exact fun t q => XT.lmul X.here hx rfl hd rfl q
    · cases h
  · split at h
    · cases h; exact fun t q => XT.land X.here hx rfl hd rfl q
    · cases h
  · split at h
    · cases h; exact fun t q => XT.lor X.here hx rfl hd rfl q
    · cases h
  · split at h
    · cases h; exact fun t q => XT.lxor X.here hx rfl hd rfl q
    · cases h
  · split at h
    · cases h; exact fun t q => XT.lshl X.here hx rfl hd rfl q
    · cases h
  · split at h
    · cases h; exact fun t q => XT.lshr X.here hx rfl hd rfl q
    · cases h
  · split at h
    · cases h; exact fun t q => XT.lushr X.here hx rfl hd rfl q
    · cases h
  · split at h
    · split at h
      · cases h
      · rename_i e1; cases h; exact fun t q => XT.ldiv X.here hx rfl hd rfl e1 q
    · cases h
  · split at h
    · cases h; exact fun t q => XT.lneg X.here hx rfl hd rfl q
    · cases h
  · split at h
    · cases h; exact fun t q => XT.lcmp X.here hx rfl hd rfl q
    · cases h
  · split at h
    · cases h; exact fun t q => XT.i2l X.here hx rfl hd rfl q
    · cases h
  · split at h
    · cases h; exact fun t q => XT.l2i X.here hx rfl hd rfl q
    · cases h
  -- dup, pop
  · split at h
    · cases h; exact fun t q => XS.dup X.here hx rfl hd rfl rfl q
    · cases h; exact fun t q => XS.dup X.here hx rfl hd rfl rfl q
    · cases h
  · split at h
    · cases h; exact fun t q => XT.pop X.here hx rfl hd rfl rfl q
    · cases h; exact fun t q => XT.pop X.here hx rfl hd rfl rfl q
    · cases h
  -- jumps
  · split at h
    · rename_i e1; cases h; exact fun t q => XS.goto X.here hx rfl rfl hd e1 rfl q
    · cases h
  · split at h
    · split at h
      · rename_i e1; cases h
        intro t q
        rw [br_eq] at q
        split at q
        · rename_i e2; exact XS.ifYes X.here hx rfl rfl hd rfl (by rw [if0]; exact e2) e1 rfl q
        · rename_i e2; exact XS.ifNo X.here hx rfl hd rfl (by rw [if0]; simpa using e2) q
      · cases h
    · cases h
  · split at h
    · split at h
      · rename_i e1; cases h
        intro t q
        rw [br_eq] at q
        split at q
        · rename_i e2; exact XS.icmpYes X.here hx rfl rfl hd rfl e2 e1 rfl q
        · rename_i e2; exact XS.icmpNo X.here hx rfl hd rfl (by simpa using e2) q
      · cases h
    · cases h
  · exact absurd rfl hsw
  · cases h
theorem pstep_sound (X : Stand p l e R s m args below meth c T locs cells slots) (hx : p.tables.exec = Jvm.exec) {ρ : Nat → Nat} {i : Instr} {n pc pc' : Nat} {ls ls' : Lv} {st st' : List Value}
    (h : pstep i pc ls st = some (pc', ls', st')) (hd : decode c.code pc = .ok (i, n)) (hn : isSw i = true ∨ n = ilen i) {L : Array Slot} (hL : LR ρ ls L) :
    ∃ L', LR ρ ls' L' ∧ L'.size = L.size ∧ ∀ target, Steps p.tables e below (T.setTop (mkF m pc' L' (st'.map (va ρ)))) target → Steps p.tables e below (T.setTop (mkF m pc L (st.map (va ρ)))) target := by
  by_cases hsw : isSw i = true
  · cases i <;> first | exact absurd hsw Bool.false_ne_true | skip
    simp only [pstep] at h
    split at h
    · rename_i e1; cases h; exact ⟨L, hL, rfl, qstep_sound X hx e1 hd hn⟩
    · cases h
  obtain rfl := hn.resolve_left hsw
  unfold pstep at h
  split at h
  -- loads
  · split at h
    · rename_i e1; cases h; exact ⟨L, hL, rfl, fun t q => XS.iloadN X.here hx rfl hd (hL.2.1 _ _ e1) q⟩
    · cases h
  · split at h
    · rename_i e1; cases h; exact ⟨L, hL, rfl, fun t q => XS.iload X.here hx rfl hd (hL.2.1 _ _ e1) q⟩
    · cases h
  · split at h
    · rename_i e1; cases h; exact ⟨L, hL, rfl, fun t q => XT.lloadN X.here hx rfl hd (hL.2.1 _ _ e1) q⟩
    · cases h
  · split at h
    · rename_i e1; cases h; exact ⟨L, hL, rfl, fun t q => XT.lload X.here hx rfl hd (hL.2.1 _ _ e1) q⟩
    · cases h
  · split at h
    · rename_i e1; cases h; exact ⟨L, hL, rfl, fun t q => XS.aloadN X.here hx rfl hd (hL.2.1 _ _ e1) rfl q⟩
    · cases h
  · split at h
    · rename_i e1; cases h; exact ⟨L, hL, rfl, fun t q => XS.aload X.here hx rfl hd (hL.2.1 _ _ e1) rfl q⟩
    · cases h
  -- stores
  · split at h
    · split at h
      · rename_i e1; cases h
        obtain ⟨L', a1, a2, a3⟩ := store_ok hL (fun x => by simp) e1
        exact ⟨L', a2, a3, fun t q => XS.istoreN X.here hx rfl hd rfl a1 q⟩
      · cases h
    · cases h
  · split at h
    · split at h
      · rename_i e1; cases h
        obtain ⟨L', a1, a2, a3⟩ := store_ok hL (fun x => by simp) e1
        exact ⟨L', a2, a3, fun t q => XS.istore X.here hx rfl hd rfl a1 q⟩
      · cases h
    · cases h
  · split at h
    · split at h
      · rename_i e1; cases h
        obtain ⟨L', a1, a2, a3⟩ := store_ok hL (fun x => by simp) e1
        exact ⟨L', a2, a3, fun t q => XT.lstoreN X.here hx rfl hd rfl a1 q⟩
      · cases h
    · cases h
  · split at h
    · split at h
      · rename_i e1; cases h
        obtain ⟨L', a1, a2, a3⟩ := store_ok hL (fun x => by simp) e1
        exact ⟨L', a2, a3, fun t q => XT.lstore X.here hx rfl hd rfl a1 q⟩
      · cases h
    · cases h
  · split at h
    · split at h
      · rename_i e1; cases h
        obtain ⟨L', a1, a2, a3⟩ := store_ok hL (fun x => by simp) e1
        exact ⟨L', a2, a3, fun t q => XS.astoreN X.here hx rfl hd rfl rfl a1 q⟩
      · cases h
    · cases h
  · split at h
    · split at h
      · rename_i e1; cases h
        obtain ⟨L', a1, a2, a3⟩ := store_ok hL (fun x => by simp) e1
        exact ⟨L', a2, a3, fun t q => XS.astore X.here hx rfl hd rfl rfl a1 q⟩
      · cases h
    · cases h
  · split at h
    · rename_i e0
      split at h
      · rename_i e1; cases h
        obtain ⟨L', a1, a2, a3⟩ := store_ok hL (fun x => by simp) e1
        exact ⟨L', a2, a3, fun t q => XS.iinc X.here hx rfl hd (hL.2.1 _ _ e0) a1 q⟩
      · cases h
    · cases h
  · rename_i hq
    split at h
    · rename_i e1; cases h; exact ⟨L, hL, rfl, qstep_sound X hx e1 hd hn⟩
    · cases h
end Pure
/-! the class's own machine -/
def nd : List Value → Bool
  | [] => true
  | .double _ :: _ => false
  | _ :: r => nd r
theorem nd_spec {as : List Value} (h : nd as = true) : ∀ v ∈ as, ∀ x, v ≠ .double x := by
  induction as with
  | nil => intro v hv; cases hv
  | cons w r ih =>
    intro v hv x e
    rcases List.mem_cons.mp hv with q | q
    · subst q; subst e; cases h
    · refine ih ?_ v q x e
      cases w <;> first | exact h | cases h
def layA : List Value → Lv
  | [] => []
  | .long x :: r => some (.long x) :: none :: layA r
  | v :: r => some v :: layA r
def lay (as : List Value) (n : Nat) : Lv := layA as ++ List.replicate (n - (layA as).length) none
def cats (st : List Value) : Nat := (st.map fun v => v.category).sum
def tyOf : Nat → FieldType
  | 0 => .int
  | 1 => .boolean
  | _ => .long
def atOf : Nat → ArrayType
  | 0 => .int
  | 1 => .boolean
  | _ => .long
def retOf : Nat → Option FieldType
  | 0 => none
  | 1 => some .int
  | 2 => some .boolean
  | _ => some .long
def zs (al : List (Nat × Nat)) (c : Nat) : Nat := ((al.take c).map (·.2)).sum
abbrev Rs := Option (Option Value × St)
def cret (me : Me) (st : List Value) (i : Instr) : Option (Option Value) :=
  match i with
  | .ireturn => match st with
    | [.int x] => if me.rt = 1 then some (some (.int x)) else if me.rt = 2 then some (some (.int (x &&& 1))) else none
    | _ => none
  | .lreturn => match st with
    | [.long x] => if me.rt = 3 then some (some (.long x)) else none
    | _ => none
  | .return_ => match st with
    | [] => if me.rt = 0 then some none else none
    | _ => none
  | _ => none
def isRet : Instr → Bool
  | .ireturn => true
  | .lreturn => true
  | .return_ => true
  | _ => false
def gfld (P : Cl) (x : Nat) (c : Nat) (s : St) : Option Value :=
  match asc P.fx x with
  | none => none
  | some k => match asc P.fs k with
    | none => none
    | some fe => match fe.2.2.1 with
      | 0 => some (.int (gI s 0 k))
      | 1 => some (.int (gI s 0 k))
      | 2 => some (.long (gL s 0 k))
      | j + 3 => if j < c then some (.ref (j + 1)) else none
def pfld (P : Cl) (x : Nat) (ini : Bool) (v : Value) (s : St) : Option St :=
  match asc P.fx x with
  | none => none
  | some k => match asc P.fs k with
    | none => none
    | some fe => if fe.2.2.2 = true ∧ ini = false then none else
      match fe.2.2.1, v with
      | 0, .int z => some (sI s 0 k z)
      | 1, .int z => some (sI s 0 k (z &&& 1))
      | 2, .long z => some (sL s 0 k z)
      | _, _ => none
def newF (P : Cl) (t : ArrayType) (cd : Cd) (pc c : Nat) (st : List Value) : Bool :=
  match st with
  | [.int n, .ref 0] => match fetch cd (pc + 2) with
    | some (.putfield x, 3) => match asc P.fx x with
      | some k => match asc P.fs k with
        | some fe => match P.al[c]? with
          | some (tt, N) => decide (fe.2.2.1 = c + 3 ∧ t = atOf tt ∧ 0 ≤ n.toInt ∧ n.toInt = N ∧ N < 1000000)
          | none => false
        | none => false
      | none => false
    | _ => false
  | _ => false
def lda (P : Cl) (tt c : Nat) (st : List Value) (s : St) : Option (List Value) :=
  match st with
  | .int i :: .ref (a + 1) :: r => match P.al[a]? with
    | some (t2, N) => if t2 = tt ∧ a < c then (if inb N i then some ((if tt = 2 then .long (gL s (a + 1) (ix i)) else .int (gI s (a + 1) (ix i))) :: r) else none) else none
    | none => none
  | _ => none
def sta (P : Cl) (tt c : Nat) (st : List Value) (s : St) : Option (List Value × St) :=
  match st with
  | v :: .int i :: .ref (a + 1) :: r => match P.al[a]? with
    | some (t2, N) => if t2 = tt ∧ a < c then (if inb N i then (match tt, v with
        | 0, .int z => some (r, sI s (a + 1) (ix i) z)
        | 1, .int z => some (r, sI s (a + 1) (ix i) (z &&& 1))
        | 2, .long z => some (r, sL s (a + 1) (ix i) z)
        | _, _ => none) else none) else none
    | none => none
  | _ => none
def cstep {α : Type} (P : Cl) (mi : Nat) (me : Me) (rt : Option Value → St → Option α) (cl : Nat → Nat → List Value → St → Rs) (k : Nat → Nat → Lv → List Value → St → Option α) (i : Instr) (c pc : Nat) (ls : Lv) (st : List Value) (s : St) : Option α :=
  match i with
  | .getfield x => match st with
    | .ref 0 :: r => (match gfld P x c s with | some v => k c (pc + 3) ls (v :: r) s | none => none)
    | _ => none
  | .putfield x => match st with
    | v :: .ref 0 :: r => (match pfld P x (mi == 0) v s with | some s' => k c (pc + 3) ls r s' | none => none)
    | _ => none
  | .iaload => match lda P 0 c st s with | some st' => k c (pc + 1) ls st' s | none => none
  | .baload => match lda P 1 c st s with | some st' => k c (pc + 1) ls st' s | none => none
  | .laload => match lda P 2 c st s with | some st' => k c (pc + 1) ls st' s | none => none
  | .iastore => match sta P 0 c st s with | some (st', s') => k c (pc + 1) ls st' s' | none => none
  | .bastore => match sta P 1 c st s with | some (st', s') => k c (pc + 1) ls st' s' | none => none
  | .lastore => match sta P 2 c st s with | some (st', s') => k c (pc + 1) ls st' s' | none => none
  | .newarray t => if mi = 0 ∧ newF P t me.cd pc c st = true then k (c + 1) (pc + 5) ls [] s else none
  | .ldc x => match asc P.kx x with | some (.int z) => k c (pc + 2) ls (.int z :: st) s | _ => none
  | .ldc2_w x => match asc P.kx x with | some (.long z) => k c (pc + 3) ls (.long z :: st) s | _ => none
  | .invokespecial x => match st with
    | .ref 0 :: r => if x = P.oi ∧ 1 ≤ me.rf ∧ cats r + 12 ≤ me.rl then k c (pc + 3) ls r s else none
    | _ => none
  | .invokevirtual x => match asc P.mx x with
    | none => none
    | some m' => match asc P.ms m' with
      | none => none
      | some me' => match st.drop me'.na with
        | .ref 0 :: r => if m' ≠ 0 ∧ me'.rf + 1 ≤ me.rf ∧ cats r + (me'.ml + 11) + me'.rl ≤ me.rl ∧ nd (st.take me'.na) = true then
            (match cl m' c (.ref 0 :: (st.take me'.na).reverse) s with
             | some (none, s') => k c (pc + 3) ls r s'
             | some (some v, s') => k c (pc + 3) ls (v :: r) s'
             | none => none) else none
        | _ => none
  | i => if isRet i = true then (if mi = 0 ∧ c ≠ P.al.length then none else match cret me st i with | some v => rt v s | none => none)
    else match pstep i pc ls st with | some (pc', ls', st') => k c pc' ls' st' s | none => none
def cexec (P : Cl) : Nat → Nat → Me → Nat → Nat → Lv → List Value → St → Rs
  | 0, _, _, _, _, _, _, _ => none
  | f + 1, mi, me, c, pc, ls, st, s => match fetch me.cd pc with
    | none => none
    | some (i, _) => cstep P mi me (fun v s => some (v, s)) (fun m' c as s => match asc P.ms m' with | some me' => (if (layA as).length ≤ me'.ml then cexec P f m' me' c 0 (lay as me'.ml) [] s else none) | none => none) (cexec P f mi me) i c pc ls st s
def ccall (P : Cl) (f m' c : Nat) (as : List Value) (s : St) : Rs := match asc P.ms m' with | some me' => (if (layA as).length ≤ me'.ml then cexec P f m' me' c 0 (lay as me'.ml) [] s else none) | none => none
end Jvm.LM

namespace Jvm.LM
open Sem ClassFile Op Lib Jvm.Stand Jvm.Free Jvm.LawKit Jvm.RoadKit
/-! how the machine's state stands in the heap -/
theorem adr_ne (a j : Nat) : a + (j + 1) ≠ a := by omega
theorem adr_ne' (a j : Nat) : a ≠ a + (j + 1) := by omega
theorem adr_ne2 (a : Nat) {j k : Nat} (h : j ≠ k) : a + (j + 1) ≠ a + (k + 1) := by omega
def Fval (adr c : Nat) (s : St) (k : Nat) (fe : Fe) : Value :=
  match fe.2.2.1 with
  | 0 => .int (gI s 0 k)
  | 1 => .int (gI s 0 k)
  | 2 => .long (gL s 0 k)
  | j + 3 => if j < c then .ref (adr + (j + 1)) else .null
def elv (tt : Nat) (s : St) (j i : Nat) : Value := if tt = 2 then .long (gL s j i) else .int (gI s j i)
def ARep (Z : State) (h : Heap) (a tt N : Nat) (s : St) (j : Nat) : Prop :=
  ∃ cl : Cell, Arr Z h a cl (tyOf tt) ∧ cl.slots.size = N ∧ ∀ i, i < N → cl.slots[i]? = some (elv tt s j i)
def HRep (P : Cl) (Z : State) (h : Heap) (adr c : Nat) (s : St) : Prop :=
  Exa Z h adr P.nm ∧ (∀ k fe, asc P.fs k = some fe → Fld Z h adr P.nm fe.1 fe.2.1 (Fval adr c s k fe)) ∧
  (∀ (j tt N : Nat), P.al[j]? = some (tt, N) → j < c → ARep Z h (adr + (j + 1)) tt N s (j + 1)) ∧
  (∀ j i, c < j → gI s j i = 0 ∧ gL s j i = 0) ∧ c ≤ P.al.length
def fkTy (P : Cl) : Nat → FieldType
  | 0 => .int
  | 1 => .boolean
  | 2 => .long
  | j + 3 => .array (tyOf ((P.al[j]?.map (·.1)).getD 0))
def yOf (P : Cl) (me : Me) : MethodName := ⟨P.nm, me.nm, me.ds⟩
def LinkC (P : Cl) (Z : State) (a0 : Array Value) : Prop :=
  ((∃ nF, (Cond.instantiable P.nm nF).before a0 Z = true) ∧ (Cond.initialized P.nm).before a0 Z = true) ∧
  (∀ x k, asc P.fx x = some k → ∀ fe, asc P.fs k = some fe → (Cond.fieldLink P.nm x P.nm fe.1 fe.2.1).before a0 Z = true) ∧
  (∀ k fe, asc P.fs k = some fe → (if fe.2.2.2 = true then Cond.laysFinal P.nm P.nm fe.1 fe.2.1 else Cond.lays P.nm P.nm fe.1 fe.2.1).before a0 Z = true) ∧
  (∀ k fe, asc P.fs k = some fe → parseFieldDescriptor fe.2.1 = some (fkTy P fe.2.2.1)) ∧
  (∀ k k' fe fe', asc P.fs k = some fe → asc P.fs k' = some fe' → k ≠ k' → fe.1 ≠ fe'.1 ∧ (3 ≤ fe.2.2.1 → fe.2.2.1 ≠ fe'.2.2.1)) ∧
  (∀ (j tt N : Nat), P.al[j]? = some (tt, N) → tt ≤ 2 ∧ (Cond.arrayClass (tyOf tt)).before a0 Z = true) ∧
  (∀ x v, asc P.kx x = some v → match v with
    | .int z => (Cond.constant P.nm x z).before a0 Z = true
    | .long z => (Cond.constantLong P.nm x z).before a0 Z = true
    | _ => True) ∧
  ((Cond.methodLink P.nm P.oi Lib.objectInit).before a0 Z = true ∧ (Cond.instanceMethod Lib.objectInit).before a0 Z = true ∧ (Cond.code Lib.objectInit ⟨#[0xb1]⟩ 1 none).before a0 Z = true) ∧
  (∀ mi me, asc P.ms mi = some me → ∃ (bytes : ByteArray) (ps : List FieldType), (Cond.code (yOf P me) bytes me.ml (retOf me.rt)).before a0 Z = true ∧
    (∀ pc i n, fetch me.cd pc = some (i, n) → decode bytes pc = .ok (i, n) ∧ (isSw i = true ∨ n = ilen i)) ∧ parseMethodDescriptor me.ds = some ⟨ps, retOf me.rt⟩ ∧ ps.length = me.na) ∧
  (∀ x mi, asc P.mx x = some mi → ∀ me, asc P.ms mi = some me → (Cond.methodLink P.nm x (yOf P me)).before a0 Z = true ∧ (Cond.instanceMethod (yOf P me)).before a0 Z = true ∧
    ((Cond.privateMethod (yOf P me)).before a0 Z = true ∨ ((Cond.declares (yOf P me)).before a0 Z = true ∧ (Cond.selects P.nm (yOf P me) (yOf P me)).before a0 Z = true))) ∧
  plainName P.nm = true ∧ (P.nm ≠ "java/lang/invoke/MethodHandle" ∧ P.nm ≠ "java/lang/invoke/VarHandle") ∧ (∀ me, asc P.ms 0 = some me → me.nm = "<init>")
theorem gI_sI (s : St) (c j : Nat) (v : Int32) (a b : Nat) : gI (sI s c j v) a b = if a = c ∧ b = j then v else gI s a b := rfl
theorem gL_sI (s : St) (c j : Nat) (v : Int32) (a b : Nat) : gL (sI s c j v) a b = gL s a b := rfl
theorem gI_sL (s : St) (c j : Nat) (v : Int64) (a b : Nat) : gI (sL s c j v) a b = gI s a b := rfl
theorem gL_sL (s : St) (c j : Nat) (v : Int64) (a b : Nat) : gL (sL s c j v) a b = if a = c ∧ b = j then v else gL s a b := rfl
theorem laid_of {P : Cl} {Z : State} {a0 : Array Value} (LK : LinkC P Z a0) {k : Nat} {fe : Fe} (hk : asc P.fs k = some fe) : Laid Z a0 P.nm P.nm fe.1 fe.2.1 := by
  have q := LK.2.2.1 k fe hk
  split at q
  · exact Or.inr q
  · exact Or.inl q
/-- a heap that is alike where the object lies -/
theorem HRep.congr {P : Cl} {Z : State} {h h' : Heap} {adr c : Nat} {s : St} (H : HRep P Z h adr c s) (e : ∀ x, adr ≤ x → x < adr + 1 + P.al.length → h'[x]? = h[x]?) : HRep P Z h' adr c s := by
  obtain ⟨h1, h2, h3, h4, h5⟩ := H
  have ea : h'[adr]? = h[adr]? := e adr (Nat.le_refl _) (by omega)
  refine ⟨?_, fun k fe hk => ?_, fun j tt N hj hc => ?_, h4, h5⟩
  · obtain ⟨cell, k, q1, r⟩ := h1; exact ⟨cell, k, by rw [ea]; exact q1, r⟩
  · obtain ⟨cell, cf, k, i, f, q1, r⟩ := h2 k fe hk; exact ⟨cell, cf, k, i, f, by rw [ea]; exact q1, r⟩
  · obtain ⟨cl, ⟨q1, q2⟩, q3⟩ := h3 j tt N hj hc
    exact ⟨cl, ⟨by rw [e _ (by omega) (by omega)]; exact q1, q2⟩, q3⟩
theorem HRep.putFld {P : Cl} {Z : State} {a0 : Array Value} (LK : LinkC P Z a0) {h h' : Heap} {adr c k : Nat} {fe : Fe} {s s' : St} {v : Value} (H : HRep P Z h adr c s) (hk : asc P.fs k = some fe)
    (W : Wr h h' adr (RoadKit.slotOf Z P.nm fe.1 fe.2.1) v) (hv : v = Fval adr c s' k fe) (hI : ∀ a b, (a ≠ 0 ∨ b ≠ k) → gI s' a b = gI s a b ∧ gL s' a b = gL s a b) : HRep P Z h' adr c s' := by
  obtain ⟨h1, h2, h3, h4, h5⟩ := H
  refine ⟨h1.wr W, fun k2 fe2 hk2 => ?_, fun j tt N hj hc => ?_, fun j i hj => ?_, h5⟩
  · by_cases e : k2 = k
    · subst e; cases hk.symm.trans hk2
      rw [← hv]; exact (h2 _ _ hk).same W
    · have hne := (LK.2.2.2.2.1 _ _ _ _ hk2 hk e).1
      have q := (h2 _ _ hk2).other W (Or.inr (slot_ne (laid_of LK hk2) (laid_of LK hk) hne (LK.2.2.2.1 _ _ hk2) (LK.2.2.2.1 _ _ hk)))
      have e2 : Fval adr c s' k2 fe2 = Fval adr c s k2 fe2 := by
        have := hI 0 k2 (Or.inr e)
        simp only [Fval]; split <;> simp [this.1, this.2]
      rw [e2]; exact q
  · obtain ⟨cl, q1, q2, q3⟩ := h3 j tt N hj hc
    refine ⟨cl, q1.other W (adr_ne _ _), q2, fun i hi => ?_⟩
    have := hI (j + 1) i (Or.inl (by omega))
    rw [q3 i hi]; simp only [elv, this.1, this.2]
  · have := hI j i (Or.inl (by omega))
    rw [this.1, this.2]; exact h4 j i hj
theorem HRep.putArr {P : Cl} {Z : State} {h h' : Heap} {adr c a tt N n : Nat} {s s' : St} {v : Value} (H : HRep P Z h adr c s) (ha : P.al[a]? = some (tt, N)) (hac : a < c) (hn : n < N)
    (W : Wr h h' (adr + (a + 1)) n v) (hv : v = elv tt s' (a + 1) n) (hI : ∀ x y, (x ≠ a + 1 ∨ y ≠ n) → gI s' x y = gI s x y ∧ gL s' x y = gL s x y) : HRep P Z h' adr c s' := by
  obtain ⟨h1, h2, h3, h4, h5⟩ := H
  refine ⟨h1.wr W, fun k fe hk => ?_, fun j tt2 N2 hj hc => ?_, fun j i hj => ?_, h5⟩
  · have q := (h2 _ _ hk).other W (Or.inl (adr_ne' _ _))
    have e2 : Fval adr c s' k fe = Fval adr c s k fe := by
      have := hI 0 k (Or.inl (by omega))
      simp only [Fval]; split <;> simp [this.1, this.2]
    rw [e2]; exact q
  · obtain ⟨cl, q1, q2, q3⟩ := h3 j tt2 N2 hj hc
    by_cases e : j = a
    · subst e; cases ha.symm.trans hj
      refine ⟨cl.setSlot n v, q1.same W, by rw [sz_set]; exact q2, fun i hi => ?_⟩
      by_cases ei : i = n
      · subst ei; rw [← hv]; simp [Cell.setSlot, q2, hi]
      · have := hI (j + 1) i (Or.inr ei)
        have q4 := q3 i hi
        simp only [elv, this.1, this.2] at q4 ⊢
        simp only [Cell.setSlot]
        rw [Array.getElem?_setIfInBounds_ne (fun q => ei q.symm)]; exact q4
    · refine ⟨cl, q1.other W (adr_ne2 _ e), q2, fun i hi => ?_⟩
      have := hI (j + 1) i (Or.inl (by omega))
      rw [q3 i hi]; simp only [elv, this.1, this.2]
  · have := hI j i (Or.inl (by omega))
    rw [this.1, this.2]; exact h4 j i hj
theorem HRep.newArr {P : Cl} {Z : State} {a0 : Array Value} (LK : LinkC P Z a0) {h h1 h2 : Heap} {adr c k tt N : Nat} {fe : Fe} {s : St} {n : Int32} {cA : ClassId} (H : HRep P Z h adr c s) (hk : asc P.fs k = some fe) (hkd : fe.2.2.1 = c + 3)
    (ha : P.al[c]? = some (tt, N)) (hn0 : 0 ≤ n.toInt) (hn : n.toInt = N) (hsz : h.size = adr + 1 + c) (E : Ext h h1) (A : Arr Z h1 h.size (newA cA (tyOf tt) n) (tyOf tt)) (W : Wr h1 h2 adr (RoadKit.slotOf Z P.nm fe.1 fe.2.1) (.ref h.size)) : HRep P Z h2 adr (c + 1) s := by
  obtain ⟨g1, g2, g3, g4, g5⟩ := H
  have hc : c < P.al.length := (List.getElem?_eq_some_iff.mp ha).1
  have hNn : n.toNatClampNeg = N := by simp only [Int32.toNatClampNeg]; omega
  have htt := (LK.2.2.2.2.2.1 _ _ _ ha).1
  refine ⟨(g1.ext E).wr W, fun k2 fe2 hk2 => ?_, fun j tt2 N2 hj hjc => ?_, fun j i hj => g4 j i (by omega), hc⟩
  · by_cases e : k2 = k
    · subst e; cases hk.symm.trans hk2
      have q := ((g2 _ _ hk).ext E).same W
      have e2 : Fval adr (c + 1) s k2 fe = .ref h.size := by simp only [Fval, hkd]; rw [if_pos (Nat.lt_succ_self c), hsz]; exact congrArg Value.ref (show adr + (c + 1) = adr + 1 + c by omega)
      rw [e2]; exact q
    · have hne := LK.2.2.2.2.1 _ _ _ _ hk2 hk e
      have q := ((g2 _ _ hk2).ext E).other W (Or.inr (slot_ne (laid_of LK hk2) (laid_of LK hk) hne.1 (LK.2.2.2.1 _ _ hk2) (LK.2.2.2.1 _ _ hk)))
      have e2 : Fval adr (c + 1) s k2 fe2 = Fval adr c s k2 fe2 := by
        simp only [Fval]; split
        · rfl
        · rfl
        · rfl
        · rename_i j hj
          have : j ≠ c := fun q => (hne.2 (by rw [hj]; omega)) (by rw [hj, hkd, q])
          by_cases b : j < c
          · rw [if_pos b, if_pos (by omega)]
          · rw [if_neg b, if_neg (by omega)]
      rw [e2]; exact q
  · by_cases e : j = c
    · subst e; cases ha.symm.trans hj
      have hA : Arr Z h2 h.size (newA cA (tyOf tt) n) (tyOf tt) := A.other W (show h.size ≠ adr by omega)
      refine ⟨newA cA (tyOf tt) n, by rw [show adr + (j + 1) = h.size by omega]; exact hA, by rw [sz_new]; exact hNn, fun i hi => ?_⟩
      have z := g4 (j + 1) i (by omega)
      simp only [newA, hNn, elv, z.1, z.2]
      rw [Array.getElem?_replicate, if_pos hi]
      have : tt = 0 ∨ tt = 1 ∨ tt = 2 := by omega
      rcases this with rfl | rfl | rfl <;> rfl
    · obtain ⟨cl, q1, q2, q3⟩ := g3 j tt2 N2 hj (by omega)
      exact ⟨cl, (q1.ext E).other W (adr_ne _ _), q2, q3⟩
/-- outside the object nothing moves -/
def Kp (h0 h : Heap) (adr n : Nat) : Prop := ∀ x, (x < adr ∨ adr + 1 + n ≤ x) → h[x]? = h0[x]?
theorem Kp.wr {h0 h h' : Heap} {adr n a sl : Nat} {v : Value} (K : Kp h0 h adr n) (W : Wr h h' a sl v) (h1 : adr ≤ a) (h2 : a < adr + 1 + n) : Kp h0 h' adr n := fun x hx => by
  obtain ⟨cell, q1, q2, q3, rfl⟩ := W
  rw [Array.getElem?_setIfInBounds_ne (by omega)]; exact K x hx
theorem Kp.ext {h0 h h' : Heap} {adr n : Nat} (K : Kp h0 h adr n) (E : Ext h h') (h1 : h'.size ≤ adr + 1 + n) (h2 : adr ≤ h.size) : Kp h0 h' adr n := fun x hx => by
  rw [← K x hx]
  by_cases b : x < h.size
  · obtain ⟨c, hc⟩ : ∃ c, h[x]? = some c := ⟨h[x], Array.getElem?_eq_getElem b⟩
    rw [hc]; exact E.2 _ _ hc
  · rw [Array.getElem?_eq_none (by omega), Array.getElem?_eq_none (by omega)]
theorem Kp.trans {h0 h h' : Heap} {adr n : Nat} (K : Kp h0 h adr n) (K' : Kp h h' adr n) : Kp h0 h' adr n := fun x hx => (K' x hx).trans (K x hx)
def cRoom (P : Cl) (mi : Nat) (me : Me) : Room := { frames := me.rf, cells := if mi = 0 then P.al.length else 0, slots := if mi = 0 then zs P.al P.al.length else 0, locals := me.rl }
def QC (P : Cl) (Z : State) (n0 adr mi c : Nat) (w : Option Value) (s' : St) (h0 : Heap) (v : Option Value) (h : Heap) (L : List Loc) : Prop :=
  (v = w ∧ ∀ ρ, v.toList.map (va ρ) = v.toList) ∧ Fr n0 L ∧ HRep P Z h adr (if mi = 0 then P.al.length else c) s' ∧ Kp h0 h adr P.al.length ∧ h.size = (if mi = 0 then adr + 1 + P.al.length else h0.size)
/-- the run from S ends, and so -/
def Don (p : Program) (e : Env) (below : List Frame) (s₀ : State) (rm : Room) (Q : Option Value → Heap → List Loc → Prop) (S : State) : Prop :=
  ∃ s₂ o, Steps p.tables e below S s₂ ∧ s₂.status = .running ∧ Ended s₂ below o ∧ ∃ v L, o = .returned v ∧ Q v s₂.heap L ∧ FrameEnd s₀ o s₂ L rm.cells rm.slots
theorem Don.step {p : Program} {e : Env} {below : List Frame} {s₀ : State} {rm : Room} {Q : Option Value → Heap → List Loc → Prop} {S S' : State} (h : ∀ t, Steps p.tables e below S' t → Steps p.tables e below S t) (D : Don p e below s₀ rm Q S') : Don p e below s₀ rm Q S := by
  obtain ⟨s₂, o, h1, h2⟩ := D; exact ⟨s₂, o, h _ h1, h2⟩
def Inv (P : Cl) (Z : State) (n0 adr mi c : Nat) (s : St) (h0 h : Heap) (locs : List Loc) : Prop :=
  HRep P Z h adr c s ∧ Fr n0 locs ∧ Kp h0 h adr P.al.length ∧ h.size = (if mi = 0 then adr + 1 + c else h0.size)
def co (mi c : Nat) : Nat := if mi = 0 then c else 0
def zo (P : Cl) (mi c : Nat) : Nat := if mi = 0 then zs P.al c else 0
/-- what the walk of a body is to show, at a given fuel -/
def CW (P : Cl) (Z : State) (n0 adr f mi : Nat) (me : Me) : Prop :=
  ∀ (p : Program) (l : Launch) (e : Env) (s₀ : State) (m : MethodId) (args : Array Value) (below : List Frame) (meth : Method) (cd : Code) (T : State) (locs : List Loc) (h0 : Heap) (c pc : Nat) (ls : Lv) (st : List Value) (s : St) (v : Option Value) (s' : St) (L : Array Slot),
    p.tables.exec = Jvm.exec → Z.Warmed39 s₀.vm → s₀.vm.findClass P.nm = some m.cls → meth.name = me.nm → meth.sig.returnType = retOf me.rt → cd.maxLocals = me.ml → meth.locks = false → (mi = 0 → s₀.heap.size = adr + 1) →
    (∀ pc i n, fetch me.cd pc = some (i, n) → decode cd.code pc = .ok (i, n) ∧ (isSw i = true ∨ n = ilen i)) →
    cexec P f mi me c pc ls st s = some (v, s') →
    Stand p l e (cRoom P mi me) s₀ m args below meth cd T locs (co mi c) (zo P mi c) →
    Inv P Z n0 adr mi c s h0 T.heap locs → LR (adr + ·) ls L → ls.length = me.ml →
    Don p e below s₀ (cRoom P mi me) (QC P Z n0 adr mi c v s' h0) (T.setTop (mkF m pc L (st.map (va (adr + ·)))))
theorem zs_mono (al : List (Nat × Nat)) {a b : Nat} (h : a ≤ b) : zs al a ≤ zs al b := by
  obtain ⟨d, rfl⟩ := Nat.le.dest h
  simp only [zs]
  rw [List.take_add, List.map_append, List.sum_append]; omega
theorem zs_succ (al : List (Nat × Nat)) {c tt N : Nat} (h : al[c]? = some (tt, N)) : zs al (c + 1) = zs al c + N := by
  simp only [zs, List.take_add_one, h]; simp
theorem zs_le (al : List (Nat × Nat)) (a : Nat) : zs al a ≤ zs al al.length := by
  by_cases h : a ≤ al.length
  · exact zs_mono al h
  · simp only [zs]; rw [List.take_of_length_le (by omega), List.take_of_length_le (Nat.le_refl _)]
    exact Nat.le_refl _
theorem narrow_I (z : Int32) : narrow .int (.int z) = .int z := rfl
theorem inb_not {n : Nat} {i : Int32} (h : inb n i) : ¬ (i < 0 ∨ n ≤ i.toNatClampNeg) := by
  intro q
  simp only [Int32.lt_iff_toInt_lt, Int32.toNatClampNeg, Int32.reduceToInt] at q
  have := h.1; have := h.2
  omega
theorem inb_ix {n : Nat} {i : Int32} (h : inb n i) : ix i < n := by
  have := h.1; have := h.2
  simp only [ix, Int32.toNatClampNeg]; omega
end Jvm.LM

namespace Jvm.LM
open Sem ClassFile Op Lib Jvm.Stand Jvm.Free Jvm.LawKit Jvm.RoadKit
/-! entering a method -/
def slA : List Value → List Slot
  | [] => []
  | v :: r => if v.category = 2 then .val v :: .second :: slA r else .val v :: slA r
theorem foldl_slA (as : List Value) (acc : Array Slot) : as.foldl (fun acc v => if v.category = 2 then (acc.push (.val v)).push .second else acc.push (.val v)) acc = acc ++ (slA as).toArray := by
  induction as generalizing acc with
  | nil => simp [slA]
  | cons v r ih =>
    rw [List.foldl_cons, ih]
    simp only [slA]
    split <;> simp
theorem al_eq (args : Array Value) (n : Nat) : argsToLocals args n = (let filled := args.foldl (init := #[]) fun acc v => if v.category = 2 then (acc.push (.val v)).push .second else acc.push (.val v); filled ++ Array.replicate (n - filled.size) .unset) := rfl
theorem atl_eq (as : List Value) (n : Nat) : argsToLocals as.toArray n = (slA as ++ List.replicate (n - (slA as).length) Slot.unset).toArray := by
  rw [al_eq]
  have : Array.foldl (fun acc v => if v.category = 2 then (acc.push (Slot.val v)).push .second else acc.push (.val v)) #[] as.toArray = (slA as).toArray := by
    rw [List.foldl_toArray, foldl_slA]; simp
  simp only [this]
  simp
theorem wfl_one {x : Slot} {l : List Slot} (h : WFf (fun k => l[k]?)) (hx : x ≠ .second) (hc : ∀ v, x = .val v → v.category ≠ 2) : WFf (fun k => (x :: l)[k]?) := by
  obtain ⟨h1, h2, h3⟩ := h
  refine ⟨fun k v hk hv => ?_, fun k hk => ?_, ?_⟩
  · cases k with
    | zero => simp at hk; exact absurd hv (hc v hk)
    | succ k => simp at hk ⊢; exact h1 k v hk hv
  · cases k with
    | zero => simp at hk; exact absurd (by simpa using hk) h3
    | succ k => simp at hk ⊢; exact h2 k (by simpa using hk)
  · simpa using hx
theorem wfl_two {v : Value} {l : List Slot} (h : WFf (fun k => l[k]?)) (hc : v.category = 2) : WFf (fun k => (Slot.val v :: .second :: l)[k]?) := by
  obtain ⟨h1, h2, h3⟩ := h
  refine ⟨fun k w hk hv => ?_, fun k hk => ?_, by simp⟩
  · match k with
    | 0 => simp
    | 1 => simp at hk
    | k + 2 => simp at hk ⊢; exact h1 k w hk hv
  · match k with
    | 0 => exact ⟨v, by simp, hc⟩
    | 1 => exact absurd (by simpa using hk) h3
    | k + 2 => simp at hk ⊢; exact h2 k (by simpa using hk)
theorem wfl_rep (n : Nat) : WFf (fun k => (List.replicate n Slot.unset)[k]?) := by
  refine ⟨fun k v hk _ => ?_, fun k hk => ?_, ?_⟩
  · simp [List.getElem?_replicate] at hk
  · simp [List.getElem?_replicate] at hk
  · simp [List.getElem?_replicate]
theorem wfl_slA (as : List Value) (r : List Slot) (h : WFf (fun k => r[k]?)) : WFf (fun k => (slA as ++ r)[k]?) := by
  induction as with
  | nil => simpa [slA] using h
  | cons v t ih =>
    simp only [slA]
    split
    · rename_i hc; exact wfl_two ih hc
    · rename_i hc; exact wfl_one ih (by simp) (fun w hw => by cases hw; exact hc)
theorem slA_len (ρ : Nat → Nat) (as : List Value) (hd : ∀ v ∈ as, ∀ x, v ≠ .double x) : (slA (as.map (va ρ))).length = (layA as).length := by
  induction as with
  | nil => rfl
  | cons v t ih =>
    have ih := ih fun w hw => hd w (List.mem_cons_of_mem _ hw)
    cases v <;> simp [slA, layA, va, Value.category, ih]
    exact absurd rfl (hd _ (List.mem_cons_self ..) _)
theorem layA_get {ρ : Nat → Nat} {as : List Value} (hd : ∀ v ∈ as, ∀ x, v ≠ .double x) {k : Nat} {w : Value} (h : (layA as)[k]? = some (some w)) : (slA (as.map (va ρ)))[k]? = some (.val (va ρ w)) := by
  induction as generalizing k with
  | nil => simp [layA] at h
  | cons v t ih =>
    have ih' := fun {k} => ih (k := k) fun w hw => hd w (List.mem_cons_of_mem _ hw)
    cases v
    case long x =>
      simp only [layA] at h
      match k with
      | 0 => simp at h; subst h; simp [slA, va, Value.category]
      | 1 => simp at h
      | k + 2 => simp at h; simpa [slA, va, Value.category] using ih' h
    case double x => exact absurd rfl (hd _ (List.mem_cons_self ..) _)
    all_goals
      simp only [layA] at h
      match k with
      | 0 => simp at h; subst h; simp [slA, va, Value.category]
      | k + 1 => simp at h; simpa [slA, va, Value.category] using ih' h
theorem lay_LR {ρ : Nat → Nat} {as : List Value} (hd : ∀ v ∈ as, ∀ x, v ≠ .double x) {n : Nat} (hn : (layA as).length ≤ n) : LR ρ (lay as n) (argsToLocals (as.map (va ρ)).toArray n) := by
  rw [atl_eq]
  have hl := slA_len ρ as hd
  refine ⟨by simp [lay, hl], fun k w hk => ?_, ?_⟩
  · simp only [lay] at hk
    rw [List.getElem?_append] at hk
    split at hk
    · have := layA_get (ρ := ρ) hd hk
      rw [List.getElem?_toArray, List.getElem?_append_left (by omega)]; exact this
    · simp [List.getElem?_replicate] at hk
  · have := wfl_slA (as.map (va ρ)) (List.replicate (n - (slA (as.map (va ρ))).length) Slot.unset) (wfl_rep _)
    have q : WFf (fun k => ((slA (as.map (va ρ)) ++ List.replicate (n - (slA (as.map (va ρ))).length) Slot.unset).toArray)[k]?) := by
      simpa using this
    exact q
theorem lay_len {as : List Value} {n : Nat} (hn : (layA as).length ≤ n) : (lay as n).length = n := by simp [lay]; omega
section Call
variable {p : Program} {l : Launch} {e : Env} {R : Room} {s : State} {m : MethodId} {args : Array Value} {below : List Frame} {meth : Method} {c : Code} {T : State} {locs : List Loc} {cells slots : Nat}
/-- a private method of a class that is no interface -/
theorem privCall (X : Stand p l e R s m args below meth c T locs cells slots) (hexec : p.tables.exec = Jvm.exec) {own : String} {index : Nat} {y : MethodName} {bytes : ByteArray} {maxL nF : Nat} {ret : Option FieldType}
    (hown : s.vm.findClass own = some m.cls) (hlink : (Cond.methodLink own index y).before args s = true) (hinst : (Cond.instanceMethod y).before args s = true) (hi : (Cond.instantiable y.cls nF).before args s = true)
    (hpriv : s.PrivateAt y) (hcode : (Cond.code y bytes maxL ret).before args s = true) (hy : y.cls ≠ "java/lang/invoke/MethodHandle" ∧ y.cls ≠ "java/lang/invoke/VarHandle")
    {W : Nat} {Pre : Free.Pt → Array Value → Prop} {Post : Free.Pt → Array Value → Option Value → Free.Pt → Prop} (hK : Free.Back l R p e below s args y 3 W Pre Post)
    {g : JFrame} (hg : g.method = m) (hsize : g.locals.size = c.maxLocals) {a : Addr} {cell : Cell} (hcell : T.heap[a]? = some cell) (hobj : ∀ q, cell.vm ≠ .statics q)
    {argsL rest : List Value} (hlen : ∀ sig, parseMethodDescriptor y.desc = some sig → argsL.length = sig.parameters.length)
    (hstack : g.stack = argsL.reverse ++ .ref a :: rest) (hW : 2 * g.monitorRoom + (rest.map fun v => v.category).sum ≤ W) (hdg : decode c.code g.pc = .ok (.invokevirtual index, 3))
    (hpre : ∀ vm₁, s.WarmedH vm₁ → Pre ⟨T.setVm vm₁, locs, cells, slots⟩ (.ref a :: argsL).toArray) :
    ∃ (v : Option Value) (vm₁ : Vm) (B : Free.Pt), s.WarmedH vm₁ ∧ Stand p l e R s m args below meth c B.U B.locs B.cells B.slots ∧ Post ⟨T.setVm vm₁, locs, cells, slots⟩ (.ref a :: argsL).toArray v B ∧
      Steps p.tables e below (T.setTop g) (B.U.setTop { g with pc := g.pc + 3, stack := v.toList ++ rest }) := by
  obtain ⟨mk, mM, hnamed, hmM, hst, hab⟩ := Cond.instanceMethod_spec hinst
  obtain ⟨mM', cM, hmM', -, -, -, -, -, -, hsig⟩ := Cond.code_spec hnamed hcode
  cases hmM.symm.trans hmM'
  obtain ⟨cc, kk, i1, i2, -, i4, -⟩ := Cond.instantiable_spec hi
  cases (findClass_of_methodNamed hnamed).symm.trans i1
  have hni : kk.isInterface = false := by
    cases q : kk.isInterface
    · rfl
    · rw [q] at i4; simp at i4
  have hsel : selectMethod e.platform s.vm cell.cls mk = .method mk := selectMethod_private hmM (hpriv mk mM hnamed hmM)
  obtain ⟨vm₁, X₁, hstep⟩ := X.invokevirtual hexec hown hlink hnamed hmM hst i2 hni hy hcell hobj hsel hmM hab i2 hni (g := g) hg (hlen _ hsig) hstack hdg
  obtain ⟨v, B, X', hpost, hs⟩ := hK m meth c ⟨T.setVm vm₁, locs, cells, slots⟩ { g with stack := rest } (.invokevirtual index) mk (.ref a :: argsL).toArray X₁ hg hsize hdg hW (X₁.named hnamed) (hpre vm₁ X₁.warmed)
  exact ⟨v, vm₁, B, X₁.warmed, X', hpost, hstep _ fun acts => by rw [doInvoke_state]; exact hs⟩
end Call
theorem cats_va (ρ : Nat → Nat) (st : List Value) : ((st.map (va ρ)).map fun v => v.category).sum = cats st := by
  simp only [cats, List.map_map]; congr 1; exact List.map_congr_left fun v _ => cat_va ρ v
/-- what a method of the class keeps, as a contract, from its walk -/
theorem met_of_CW {P : Cl} {Z : State} {a0 : Array Value} (LK : LinkC P Z a0) {n0 adr f mi : Nat} {me : Me} (hme : asc P.ms mi = some me) (hW : CW P Z n0 adr f mi me) (l : Launch) {bytes : ByteArray}
    (hdec : ∀ pc i n, fetch me.cd pc = some (i, n) → decode bytes pc = .ok (i, n) ∧ (isSw i = true ∨ n = ilen i))
    {as : List Value} (hd : ∀ v ∈ as, ∀ x, v ≠ .double x) (hlen : (layA as).length ≤ me.ml) {c : Nat} {s s' : St} {v : Option Value} {h : Heap} (hr : cexec P f mi me c 0 (lay as me.ml) [] s = some (v, s')) (hc : mi = 0 → c = 0)
    (H : HRep P Z h adr c s) (hsz : mi = 0 → h.size = adr + 1) :
    MetFree l (yOf P me) (head1 [Cond.code (yOf P me) bytes me.ml (retOf me.rt)] (cRoom P mi me)) (fun a U => a = (as.map (va (adr + ·))).toArray ∧ Z.Warmed39 U.vm ∧ U.heap = h) (fun _ _ _ _ _ => True)
      (fun _ U o U' => ∃ w L, o = .returned w ∧ QC P Z n0 adr mi c v s' h w U'.heap L ∧ FrameEnd U o U' L (cRoom P mi me).cells (cRoom P mi me).slots) := by
  refine MetFree.of_bodySF (plainFor_of_name LK.2.2.2.2.2.2.2.2.2.2.1) hisR ?_
  intro p e s₀ m args below meth cd s₁ Bd hml hP hK
  obtain ⟨rfl, hZ, hh⟩ := hP
  have e0 : s₁.heap = h := by rw [← hh, Bd.state]; rfl
  have X0 : Stand p l e (cRoom P mi me) s₀ m _ below meth cd s₁ [] 0 0 := Stand.of_body Bd
  have hown : s₀.vm.findClass P.nm = some m.cls := findClass_of_methodNamed Bd.named
  have hnm : meth.name = me.nm := (name_of_methodNamed Bd.named Bd.method).1
  have hk0 : co mi c = 0 := by simp only [co]; split; · rename_i q; exact hc q
                               · rfl
  have hz0 : zo P mi c = 0 := by
    simp only [zo]; split
    · rename_i q; rw [hc q]; simp [zs]
    · rfl
  have D := hW p l e s₀ m _ below meth cd s₁ [] h c 0 (lay as me.ml) [] s v s' _ Bd.exec hZ hown hnm Bd.returns hml Bd.notSynchronized (fun q => by rw [hh]; exact hsz q)
    (fun pc i n q => by rw [Bd.bytes]; exact hdec pc i n q) hr (by rw [hk0, hz0]; exact X0)
    ⟨by rw [e0]; exact H, Fr.nil n0, by rw [e0]; exact fun x _ => rfl, by
      rw [e0]; split
      · rename_i q; rw [hsz q, hc q]
      · rfl⟩ (lay_LR hd hlen) (lay_len hlen)
  obtain ⟨s₂, o, a1, a2, a3, w, L, a4, a5, a6⟩ := D
  exact ⟨s₂, o, a1, a2, a3, w, L, a4, a5, a6⟩
end Jvm.LM

namespace Jvm.LM
open Sem ClassFile Op Lib Jvm.Stand Jvm.Free Jvm.LawKit Jvm.RoadKit
section Steps
variable {p : Program} {l : Launch} {e : Env} {R : Room} {s₀ : State} {m : MethodId} {args : Array Value} {below : List Frame} {meth : Method} {cd : Code} {T : State} {locs : List Loc} {cells slots : Nat}
variable {P : Cl} {Z : State} {a0 : Array Value} {n0 adr c mi : Nat} {s s' : St} {h0 : Heap}
theorem gfld_val {x : Nat} {w : Value} (hg : gfld P x c s = some w) : ∃ k fe, asc P.fx x = some k ∧ asc P.fs k = some fe ∧ Fval adr c s k fe = va (adr + ·) w := by
  unfold gfld at hg
  split at hg
  · cases hg
  · rename_i k e1
    split at hg
    · cases hg
    · rename_i fe e2
      refine ⟨k, fe, e1, e2, ?_⟩
      simp only [Fval]
      split at hg
      · rename_i e3; cases hg; first | rfl | (rw [e3]; rfl)
      · rename_i e3; cases hg; first | rfl | (rw [e3]; rfl)
      · rename_i e3; cases hg; first | rfl | (rw [e3]; rfl)
      · rename_i j e3
        split at hg
        · rename_i e4; cases hg; first | (simp only [if_pos e4]; rfl) | (rw [e3]; simp only [if_pos e4]; rfl)
        · cases hg
theorem st_get (LK : LinkC P Z a0) (X : Stand p l e R s₀ m args below meth cd T locs cells slots) (hx : p.tables.exec = Jvm.exec) (hZ : Z.Warmed39 s₀.vm) (hown : s₀.vm.findClass P.nm = some m.cls) (H : HRep P Z T.heap adr c s) {x pc : Nat} {w : Value} (hg : gfld P x c s = some w)
    (hd : decode cd.code pc = .ok (.getfield x, 3)) {L : Array Slot} {r : List Value} :
    ∃ T', Stand p l e R s₀ m args below meth cd T' locs cells slots ∧ T'.heap = T.heap ∧ ∀ t, Steps p.tables e below (T'.setTop (mkF m (pc + 3) L (va (adr + ·) w :: r))) t → Steps p.tables e below (T.setTop (mkF m pc L (.ref adr :: r))) t := by
  obtain ⟨k, fe, e1, e2, e3⟩ := gfld_val (adr := adr) hg
  have F := H.2.1 k fe e2
  rw [e3] at F
  exact getF X hx hZ hown (host := "") (Or.inl (LK.2.1 _ _ e1 _ e2)) Via.refl rfl F (g := mkF m pc L (.ref adr :: r)) rfl rfl hd
theorem st_put (LK : LinkC P Z a0) (X : Stand p l e R s₀ m args below meth cd T locs cells slots) (hx : p.tables.exec = Jvm.exec) (hZ : Z.Warmed39 s₀.vm) (hown : s₀.vm.findClass P.nm = some m.cls) (hna : n0 ≤ adr) (I : Inv P Z n0 adr mi c s h0 T.heap locs) {x pc : Nat} {w : Value} {ini : Bool} (hini : ini = true → meth.name = "<init>") (hg : pfld P x ini w s = some s')
    (hd : decode cd.code pc = .ok (.putfield x, 3)) {L : Array Slot} {r : List Value} :
    ∃ T' locs', Stand p l e R s₀ m args below meth cd T' locs' cells slots ∧ Inv P Z n0 adr mi c s' h0 T'.heap locs' ∧ ∀ t, Steps p.tables e below (T'.setTop (mkF m (pc + 3) L r)) t → Steps p.tables e below (T.setTop (mkF m pc L (w :: .ref adr :: r))) t := by
  obtain ⟨H, hFr, hK, hS⟩ := I
  obtain ⟨nF, hnF⟩ := LK.1.1
  unfold pfld at hg
  split at hg
  · cases hg
  · rename_i k e1
    split at hg
    · cases hg
    · rename_i fe e2
      split at hg
      · cases hg
      · rename_i e3
        have hL : (Cond.lays P.nm P.nm fe.1 fe.2.1).before a0 Z = true ∨ ((Cond.laysFinal P.nm P.nm fe.1 fe.2.1).before a0 Z = true ∧ P.nm = P.nm ∧ meth.name = "<init>") := by
          have q := LK.2.2.1 k fe e2
          split at q
          · rename_i e4
            refine Or.inr ⟨q, rfl, hini ?_⟩
            cases ini
            · exact absurd ⟨e4, rfl⟩ e3
            · rfl
          · exact Or.inl q
        have hp := LK.2.2.2.1 k fe e2
        have fin : ∀ {T' : State} {h' : Heap} {v' : Value}, Stand p l e R s₀ m args below meth cd T' (locs ++ [⟨adr, RoadKit.slotOf Z P.nm fe.1 fe.2.1⟩]) cells slots → T'.heap = h' → Wr T.heap h' adr (RoadKit.slotOf Z P.nm fe.1 fe.2.1) v' → v' = Fval adr c s' k fe →
            (∀ a b, (a ≠ 0 ∨ b ≠ k) → gI s' a b = gI s a b ∧ gL s' a b = gL s a b) → Inv P Z n0 adr mi c s' h0 T'.heap (locs ++ [⟨adr, RoadKit.slotOf Z P.nm fe.1 fe.2.1⟩]) := fun {T' h' v'} X' e4 W e5 e6 => by
          rw [e4]
          exact ⟨H.putFld LK e2 W e5 e6, Fr.snoc X' hFr hna, hK.wr W (Nat.le_refl _) (by omega), by rw [W.size]; exact hS⟩
        split at hg
        · rename_i z e4
          cases hg
          rw [e4] at hp
          obtain ⟨T', h', X', q1, W, st⟩ := putF X hx hZ hown (host := "") (Or.inl (LK.2.1 _ _ e1 _ e2)) Via.refl rfl (H.2.1 k fe e2) H.1 hL hnF hp (narrow_I z) rfl (g := mkF m pc L (.int z :: .ref adr :: r)) rfl rfl hd
          refine ⟨T', _, X', fin X' q1 W (by simp only [Fval, e4]; simp [gI_sI]) (fun a b hab => ?_), st⟩
          rw [gI_sI, gL_sI, if_neg (by omega)]; exact ⟨rfl, rfl⟩
        · rename_i z e4
          cases hg
          rw [e4] at hp
          obtain ⟨T', h', X', q1, W, st⟩ := putFN X hx hZ hown (LK.2.1 _ _ e1 _ e2) Via.refl rfl (H.2.1 k fe e2) H.1 hL hnF (v' := .int (z &&& 1)) hp rfl (fits_nar_bool z) (g := mkF m pc L (.int z :: .ref adr :: r)) rfl rfl hd
          refine ⟨T', _, X', fin X' q1 W (by simp only [Fval, e4]; simp [gI_sI]) (fun a b hab => ?_), st⟩
          rw [gI_sI, gL_sI, if_neg (by omega)]; exact ⟨rfl, rfl⟩
        · rename_i z e4
          cases hg
          rw [e4] at hp
          obtain ⟨T', h', X', q1, W, st⟩ := putF X hx hZ hown (host := "") (Or.inl (LK.2.1 _ _ e1 _ e2)) Via.refl rfl (H.2.1 k fe e2) H.1 hL hnF hp rfl rfl (g := mkF m pc L (.long z :: .ref adr :: r)) rfl rfl hd
          refine ⟨T', _, X', fin X' q1 W (by simp only [Fval, e4]; simp [gL_sL]) (fun a b hab => ?_), st⟩
          rw [gL_sL, gI_sL, if_neg (by omega)]; exact ⟨rfl, rfl⟩
        · cases hg
theorem lda_spec {tt : Nat} {st st' : List Value} (hl : lda P tt c st s = some st') : ∃ i a r N, st = .int i :: .ref (a + 1) :: r ∧ P.al[a]? = some (tt, N) ∧ a < c ∧ inb N i ∧ st' = elv tt s (a + 1) (ix i) :: r := by
  unfold lda at hl
  split at hl
  · rename_i i a r
    split at hl
    · rename_i t2 N e1
      split at hl
      · rename_i e2
        obtain ⟨rfl, e3⟩ := e2
        split at hl
        · rename_i e4; cases hl; exact ⟨i, a, r, N, rfl, e1, e3, e4, rfl⟩
        · cases hl
      · cases hl
    · cases hl
  · cases hl
theorem va_elv (ρ : Nat → Nat) (tt : Nat) (s : St) (j i : Nat) : va ρ (elv tt s j i) = elv tt s j i := by unfold elv; split <;> rfl
theorem st_lda (X : Stand p l e R s₀ m args below meth cd T locs cells slots) (hx : p.tables.exec = Jvm.exec) (hZ : Z.Warmed39 s₀.vm) (H : HRep P Z T.heap adr c s) {tt pc : Nat} {st st' : List Value} (hl : lda P tt c st s = some st') {i : Instr}
    (hi : (tt = 0 ∧ i = .iaload) ∨ (tt = 1 ∧ i = .baload) ∨ (tt = 2 ∧ i = .laload)) (hd : decode cd.code pc = .ok (i, 1)) {L : Array Slot} :
    ∀ t, Steps p.tables e below (T.setTop (mkF m (pc + 1) L (st'.map (va (adr + ·))))) t → Steps p.tables e below (T.setTop (mkF m pc L (st.map (va (adr + ·))))) t := by
  obtain ⟨j, a, r, N, rfl, e1, e2, e3, rfl⟩ := lda_spec hl
  obtain ⟨cl, A, hN, hv⟩ := H.2.2.1 a tt N e1 e2
  have hin : ¬ (j < 0 ∨ cl.slots.size ≤ j.toNatClampNeg) := by rw [hN]; exact inb_not e3
  have hat : cl.slots[j.toNatClampNeg]? = some (elv tt s (a + 1) (ix j)) := hv (ix j) (inb_ix e3)
  intro t q
  rw [List.map_cons, va_elv] at q
  rcases hi with ⟨rfl, rfl⟩ | ⟨rfl, rfl⟩ | ⟨rfl, rfl⟩
  · exact X.iaload hx A.1 (State.isArrayOf_alike hZ.alike A.2.1) A.2.2 hin hat (g := mkF m pc L (.int j :: .ref (adr + (a + 1)) :: r.map (va (adr + ·)))) rfl rfl hd t q
  · exact X.baloadBooleans hx A.1 (State.isArrayOf_alike hZ.alike A.2.1) A.2.2 hin hat (g := mkF m pc L (.int j :: .ref (adr + (a + 1)) :: r.map (va (adr + ·)))) rfl rfl hd t q
  · exact X.laload hx A.1 (State.isArrayOf_alike hZ.alike A.2.1) A.2.2 hin hat (g := mkF m pc L (.int j :: .ref (adr + (a + 1)) :: r.map (va (adr + ·)))) rfl rfl hd t q
theorem sta_spec {tt : Nat} {st st' : List Value} (hl : sta P tt c st s = some (st', s')) : ∃ v i a N, st = v :: .int i :: .ref (a + 1) :: st' ∧ P.al[a]? = some (tt, N) ∧ a < c ∧ inb N i ∧
    ((tt = 0 ∧ ∃ z, v = .int z ∧ s' = sI s (a + 1) (ix i) z) ∨ (tt = 1 ∧ ∃ z, v = .int z ∧ s' = sI s (a + 1) (ix i) (z &&& 1)) ∨ (tt = 2 ∧ ∃ z, v = .long z ∧ s' = sL s (a + 1) (ix i) z)) := by
  unfold sta at hl
  split at hl
  · rename_i v i a r
    split at hl
    · rename_i t2 N e1
      split at hl
      · rename_i e2
        obtain ⟨rfl, e3⟩ := e2
        split at hl
        · rename_i e4
          split at hl
          · cases hl; exact ⟨_, i, a, N, rfl, e1, e3, e4, Or.inl ⟨rfl, _, rfl, rfl⟩⟩
          · cases hl; exact ⟨_, i, a, N, rfl, e1, e3, e4, Or.inr (Or.inl ⟨rfl, _, rfl, rfl⟩)⟩
          · cases hl; exact ⟨_, i, a, N, rfl, e1, e3, e4, Or.inr (Or.inr ⟨rfl, _, rfl, rfl⟩)⟩
          · cases hl
        · cases hl
      · cases hl
    · cases hl
  · cases hl
theorem st_sta (X : Stand p l e R s₀ m args below meth cd T locs cells slots) (hx : p.tables.exec = Jvm.exec) (hZ : Z.Warmed39 s₀.vm) (hna : n0 ≤ adr) (I : Inv P Z n0 adr mi c s h0 T.heap locs) {tt pc : Nat} {st st' : List Value} (hl : sta P tt c st s = some (st', s')) {i : Instr}
    (hi : (tt = 0 ∧ i = .iastore) ∨ (tt = 1 ∧ i = .bastore) ∨ (tt = 2 ∧ i = .lastore)) (hd : decode cd.code pc = .ok (i, 1)) {L : Array Slot} :
    ∃ T' locs', Stand p l e R s₀ m args below meth cd T' locs' cells slots ∧ Inv P Z n0 adr mi c s' h0 T'.heap locs' ∧ ∀ t, Steps p.tables e below (T'.setTop (mkF m (pc + 1) L (st'.map (va (adr + ·))))) t → Steps p.tables e below (T.setTop (mkF m pc L (st.map (va (adr + ·))))) t := by
  obtain ⟨H, hFr, hK, hS⟩ := I
  obtain ⟨v, j, a, N, rfl, e1, e2, e3, e4⟩ := sta_spec hl
  obtain ⟨cl, A, hN, hv⟩ := H.2.2.1 a tt N e1 e2
  have hin : ¬ (j < 0 ∨ cl.slots.size ≤ j.toNatClampNeg) := by rw [hN]; exact inb_not e3
  have hal := (List.getElem?_eq_some_iff.mp e1).1
  have fin : ∀ {T' : State} {h' : Heap} {v' : Value}, Stand p l e R s₀ m args below meth cd T' (locs ++ [⟨adr + (a + 1), j.toNatClampNeg⟩]) cells slots → T'.heap = h' → Wr T.heap h' (adr + (a + 1)) j.toNatClampNeg v' → v' = elv tt s' (a + 1) (ix j) →
      (∀ x y, (x ≠ a + 1 ∨ y ≠ ix j) → gI s' x y = gI s x y ∧ gL s' x y = gL s x y) → Inv P Z n0 adr mi c s' h0 T'.heap (locs ++ [⟨adr + (a + 1), j.toNatClampNeg⟩]) := fun {T' h' v'} X' q1 W q2 q3 => by
    rw [q1]
    exact ⟨H.putArr e1 e2 (inb_ix e3) W q2 q3, Fr.snoc X' hFr (by omega), hK.wr W (by omega) (by omega), by rw [W.size]; exact hS⟩
  rcases e4 with ⟨rfl, z, rfl, rfl⟩ | ⟨rfl, z, rfl, rfl⟩ | ⟨rfl, z, rfl, rfl⟩
  · obtain ⟨-, rfl⟩ : (0 : Nat) = 0 ∧ i = .iastore := by rcases hi with q | q | q <;> first | exact q | (have := q.1; omega)
    obtain ⟨T', h', X', q1, W, st⟩ := stI X hx hZ rfl A hin (g := mkF m pc L (.int z :: .int j :: .ref (adr + (a + 1)) :: st'.map (va (adr + ·)))) rfl rfl hd
    refine ⟨T', _, X', fin X' q1 W (by simp [elv, gI_sI, ix]) (fun x y hxy => ?_), st⟩
    rw [gI_sI, gL_sI, if_neg (fun q => hxy.elim (fun z => z q.1) (fun z => z q.2))]; exact ⟨rfl, rfl⟩
  · obtain ⟨-, rfl⟩ : (1 : Nat) = 1 ∧ i = .bastore := by rcases hi with q | q | q <;> first | exact q | (have := q.1; omega)
    obtain ⟨T', h', X', q1, W, st⟩ := stZ X hx hZ rfl A hin (g := mkF m pc L (.int z :: .int j :: .ref (adr + (a + 1)) :: st'.map (va (adr + ·)))) rfl rfl hd
    refine ⟨T', _, X', fin X' q1 W (by simp [elv, gI_sI, ix, nar]) (fun x y hxy => ?_), st⟩
    rw [gI_sI, gL_sI, if_neg (fun q => hxy.elim (fun z => z q.1) (fun z => z q.2))]; exact ⟨rfl, rfl⟩
  · obtain ⟨-, rfl⟩ : (2 : Nat) = 2 ∧ i = .lastore := by rcases hi with q | q | q <;> first | exact q | (have := q.1; omega)
    obtain ⟨T', h', X', q1, W, st⟩ := stJ X hx hZ rfl A hin (g := mkF m pc L (.long z :: .int j :: .ref (adr + (a + 1)) :: st'.map (va (adr + ·)))) rfl rfl hd
    refine ⟨T', _, X', fin X' q1 W (by simp [elv, gL_sL, ix]) (fun x y hxy => ?_), st⟩
    rw [gL_sL, gI_sL, if_neg (fun q => hxy.elim (fun z => z q.1) (fun z => z q.2))]; exact ⟨rfl, rfl⟩
theorem newF_spec {t : ArrayType} {code : Cd} {pc : Nat} {st : List Value} (h : newF P t code pc c st = true) : ∃ n x k fe tt N, st = [.int n, .ref 0] ∧ fetch code (pc + 2) = some (.putfield x, 3) ∧ asc P.fx x = some k ∧ asc P.fs k = some fe ∧ P.al[c]? = some (tt, N) ∧
    fe.2.2.1 = c + 3 ∧ t = atOf tt ∧ 0 ≤ n.toInt ∧ n.toInt = N ∧ N < 1000000 := by
  unfold newF at h
  split at h
  · rename_i n
    split at h
    · rename_i x e1
      split at h
      · rename_i k e2
        split at h
        · rename_i fe e3
          split at h
          · rename_i tt N e4
            obtain ⟨q1, q2, q3, q4, q5⟩ := of_decide_eq_true h
            exact ⟨n, x, k, fe, tt, N, rfl, e1, e2, e3, e4, q1, q2, q3, q4, q5⟩
          · cases h
        · cases h
      · cases h
    · cases h
  · cases h
theorem ty_at {tt : Nat} (h : tt ≤ 2) : newarray.typeOf (atOf tt) = tyOf tt := by
  have : tt = 0 ∨ tt = 1 ∨ tt = 2 := by omega
  rcases this with rfl | rfl | rfl <;> rfl
theorem st_new (LK : LinkC P Z a0) {me : Me} (hme : asc P.ms 0 = some me) (hnm : meth.name = me.nm) (X : Stand p l e (cRoom P 0 me) s₀ m args below meth cd T locs (co 0 c) (zo P 0 c)) (hx : p.tables.exec = Jvm.exec) (hZ : Z.Warmed39 s₀.vm) (hown : s₀.vm.findClass P.nm = some m.cls) (hna : n0 ≤ adr) (hs0 : s₀.heap.size = adr + 1) (I : Inv P Z n0 adr 0 c s h0 T.heap locs)
    (hdec : ∀ pc i n, fetch me.cd pc = some (i, n) → decode cd.code pc = .ok (i, n) ∧ (isSw i = true ∨ n = ilen i)) {t : ArrayType} {pc : Nat} {st : List Value} (h : newF P t me.cd pc c st = true) (hd : decode cd.code pc = .ok (.newarray t, 2)) {L : Array Slot} :
    ∃ T' locs', Stand p l e (cRoom P 0 me) s₀ m args below meth cd T' locs' (co 0 (c + 1)) (zo P 0 (c + 1)) ∧ Inv P Z n0 adr 0 (c + 1) s h0 T'.heap locs' ∧ ∀ t, Steps p.tables e below (T'.setTop (mkF m (pc + 5) L [])) t → Steps p.tables e below (T.setTop (mkF m pc L (st.map (va (adr + ·))))) t := by
  obtain ⟨H, hFr, hK, hS⟩ := I
  obtain ⟨nF, hnF⟩ := LK.1.1
  obtain ⟨n, x, k, fe, tt, N, rfl, e1, e2, e3, e4, e5, rfl, e6, e7, e8⟩ := newF_spec h
  obtain ⟨htt, hac⟩ := LK.2.2.2.2.2.1 _ _ _ e4
  have hal := (List.getElem?_eq_some_iff.mp e4).1
  have hS' : T.heap.size = adr + 1 + c := hS
  have hty := ty_at htt
  have hini : meth.name = "<init>" := by rw [hnm]; exact LK.2.2.2.2.2.2.2.2.2.2.2.2 me hme
  have hLy : (Cond.lays P.nm P.nm fe.1 fe.2.1).before a0 Z = true ∨ ((Cond.laysFinal P.nm P.nm fe.1 fe.2.1).before a0 Z = true ∧ P.nm = P.nm ∧ meth.name = "<init>") := by
    have q := LK.2.2.1 k fe e3
    split at q
    · exact Or.inr ⟨q, rfl, hini⟩
    · exact Or.inl q
  have hzc := zs_succ P.al e4
  have hzm := zs_le P.al (c + 1)
  obtain ⟨T1, hp1, cA, X1, q1, E, A, st1⟩ := newP X hx hZ (aty := atOf tt) (by rw [hty]; exact hac) rfl (g := mkF m pc L [.int n, .ref adr]) rfl hd rfl (by rw [Int32.lt_iff_toInt_lt]; simp only [Int32.reduceToInt]; omega) (cap := N)
    (by simp only [Int32.toNatClampNeg]; omega) (by omega) (by simp only [co, cRoom, if_true]; omega) (by simp only [zo, cRoom, if_true]; omega)
  rw [hty] at A
  have hp := LK.2.2.2.1 k fe e3
  rw [e5] at hp
  obtain ⟨d2, -⟩ := hdec _ _ _ e1
  have hsz1 : hp1.size = adr + 1 + (c + 1) := by
    have hh : T1.heap.size ≤ s₀.heap.size + (c + 1) := X1.heapSize
    have g2 : T.heap.size < Array.size hp1 := A.lt
    rw [q1, hs0] at hh
    rw [hS'] at g2
    omega
  obtain ⟨T2, hp2, X2, q2, W, st2⟩ := putF X1 hx hZ hown (host := "") (Or.inl (LK.2.1 _ _ e2 _ e3)) Via.refl q1 ((H.2.1 k fe e3).ext E) (H.1.ext E) hLy hnF (v := .ref T.heap.size) hp rfl rfl (g := mkF m (pc + 2) L [.ref T.heap.size, .ref adr]) rfl rfl d2
  refine ⟨T2, _, by simpa [co, zo, hzc] using X2, ?_, fun t q => st1 _ (st2 _ q)⟩
  rw [q2]
  refine ⟨H.newArr LK e3 e5 e4 e6 e7 hS' E A W, Fr.snoc X2 hFr hna, ?_, by rw [W.size, hsz1]; simp⟩
  exact (hK.ext E (by rw [hsz1]; omega) (by omega)).wr W (Nat.le_refl _) (by omega)
end Steps
end Jvm.LM

namespace Jvm.LM
open Sem ClassFile Op Lib Jvm.Stand Jvm.Free Jvm.LawKit Jvm.RoadKit
theorem cret_spec {me : Me} {st : List Value} {i : Instr} {v : Option Value} (h : cret me st i = some v) :
    (∃ x, i = .ireturn ∧ st = [.int x] ∧ ((me.rt = 1 ∧ v = some (.int x)) ∨ (me.rt = 2 ∧ v = some (.int (x &&& 1))))) ∨ (∃ x, i = .lreturn ∧ st = [.long x] ∧ me.rt = 3 ∧ v = some (.long x)) ∨ (i = .return_ ∧ st = [] ∧ me.rt = 0 ∧ v = none) := by
  unfold cret at h
  split at h
  · split at h
    · rename_i x
      split at h
      · rename_i e1; cases h; exact Or.inl ⟨x, rfl, rfl, Or.inl ⟨e1, rfl⟩⟩
      · split at h
        · rename_i e1; cases h; exact Or.inl ⟨x, rfl, rfl, Or.inr ⟨e1, rfl⟩⟩
        · cases h
    · cases h
  · split at h
    · rename_i x
      split at h
      · rename_i e1; cases h; exact Or.inr (Or.inl ⟨x, rfl, rfl, e1, rfl⟩)
      · cases h
    · cases h
  · split at h
    · split at h
      · rename_i e1; cases h; exact Or.inr (Or.inr ⟨rfl, rfl, e1, rfl⟩)
      · cases h
    · cases h
  · cases h
section Ret
variable {p : Program} {l : Launch} {e : Env} {R : Room} {s₀ : State} {m : MethodId} {args : Array Value} {below : List Frame} {meth : Method} {cd : Code} {T : State} {locs : List Loc} {cells slots : Nat}
theorem retI' (X : Stand p l e R s₀ m args below meth cd T locs cells slots) (hx : p.tables.exec = Jvm.exec) {pc : Nat} {Ls : Array Slot} {z : Int32} {rest : List Value} (hret : meth.sig.returnType = some .int) (hd : decode cd.code pc = .ok (.ireturn, 1)) {fs : List Frame}
    (hl : ∀ (f : JFrame) (acts : List Action), f.method = m → f.locked = none → f.entered = [] → (doReturn e (T.setTop f) acts (some (.int z))).1 = T.setFrames fs) : Steps p.tables e below (T.setTop (mkF m pc Ls (.int z :: rest))) (T.setFrames fs) :=
  retOut X hx (t := .int) (i := .ireturn) hret rfl (Or.inl ⟨rfl, Or.inl rfl, z, rfl⟩) hd hl
theorem st_ret (X : Stand p l e R s₀ m args below meth cd T locs cells slots) (hx : p.tables.exec = Jvm.exec) {me : Me} (hret : meth.sig.returnType = retOf me.rt) (hlk : meth.locks = false) {ρ : Nat → Nat} {st : List Value} {i : Instr} {v : Option Value} (h : cret me st i = some v) {pc n : Nat} (hd : decode cd.code pc = .ok (i, n)) (hn : isSw i = true ∨ n = ilen i)
    {Q : Option Value → Heap → List Loc → Prop} (hQ : Q v T.heap locs) (hc : cells ≤ R.cells) (hs : slots ≤ R.slots) {L : Array Slot} : Don p e below s₀ R Q (T.setTop (mkF m pc L (st.map (va ρ)))) := by
  rcases cret_spec h with ⟨x, rfl, rfl, h1⟩ | ⟨x, rfl, rfl, h1, rfl⟩ | ⟨rfl, rfl, h1, rfl⟩
  · obtain rfl := hn.resolve_left Bool.false_ne_true
    rcases h1 with ⟨h1, rfl⟩ | ⟨h1, rfl⟩
    · rw [h1] at hret
      obtain ⟨fs, hr, hrun, hended, hW, hsame⟩ := X.leave (v := some (.int x)) (fun q => by rw [hret] at q; cases q) hlk
      exact ⟨_, _, retI' X hx hret hd hr, hrun, hended, _, _, rfl, hQ, ⟨_, rfl⟩, hW, hsame.mono hc hs⟩
    · rw [h1] at hret
      obtain ⟨fs, hr, hrun, hended, hW, hsame⟩ := X.leave (v := some (.int (x &&& 1))) (fun q => by rw [hret] at q; cases q) hlk
      exact ⟨_, _, retN X hx (t := .boolean) hret (Or.inl rfl) hd hr, hrun, hended, _, _, rfl, hQ, ⟨_, rfl⟩, hW, hsame.mono hc hs⟩
  · obtain rfl := hn.resolve_left Bool.false_ne_true
    rw [h1] at hret
    obtain ⟨fs, hr, hrun, hended, hW, hsame⟩ := X.leave (v := some (.long x)) (fun q => by rw [hret] at q; cases q) hlk
    exact ⟨_, _, retOut X hx (t := .long) (i := .lreturn) hret rfl (Or.inr (Or.inl ⟨rfl, rfl, x, rfl⟩)) hd hr, hrun, hended, _, _, rfl, hQ, ⟨_, rfl⟩, hW, hsame.mono hc hs⟩
  · obtain rfl := hn.resolve_left Bool.false_ne_true
    rw [h1] at hret
    obtain ⟨fs, hr, hrun, hended, hW, hsame⟩ := X.leave (v := none) (fun _ => rfl) hlk
    exact ⟨_, _, X.returnOut hx hret hd hr, hrun, hended, _, _, rfl, hQ, ⟨_, rfl⟩, hW, hsame.mono hc hs⟩
end Ret
theorem cret_va {me : Me} {st : List Value} {i : Instr} {v : Option Value} (h : cret me st i = some v) (ρ : Nat → Nat) : v.toList.map (va ρ) = v.toList := by
  rcases cret_spec h with ⟨x, rfl, rfl, ⟨-, rfl⟩ | ⟨-, rfl⟩⟩ | ⟨x, rfl, rfl, -, rfl⟩ | ⟨rfl, rfl, -, rfl⟩ <;> rfl
theorem nd_rev {ρ : Nat → Nat} {as : List Value} (h : nd as = true) : ∀ v ∈ (Value.ref 0 :: as.reverse), ∀ x, v ≠ .double x := fun v hv x e => by
  rcases List.mem_cons.mp hv with q | q
  · subst q; cases e
  · exact nd_spec h v (List.mem_reverse.mp q) x e
theorem pfld_va {P : Cl} {x : Nat} {ini : Bool} {w : Value} {s s1 : St} (hg : pfld P x ini w s = some s1) (ρ : Nat → Nat) : va ρ w = w := by
  cases w <;> first | rfl | skip
  exfalso
  unfold pfld at hg
  split at hg
  · cases hg
  · split at hg
    · cases hg
    · split at hg
      · cases hg
      · split at hg
        · rename_i q; cases q
        · rename_i q; cases q
        · rename_i q; cases q
        · cases hg
theorem cwalk {P : Cl} {Z : State} {a0 : Array Value} (LK : LinkC P Z a0) {n0 adr : Nat} (hna : n0 ≤ adr) : ∀ f mi me, asc P.ms mi = some me → CW P Z n0 adr f mi me := by
  intro f
  induction f with
  | zero =>
    intro mi me hme p l e s₀ m args below meth cd T locs h0 c pc ls st s v s' L hx hZ hown hnm hret hml hlk hs0 hdec hr
    cases hr
  | succ f ih =>
    intro mi me hme p l e s₀ m args below meth cd T locs h0 c pc ls st s v s' L hx hZ hown hnm hret hml hlk hs0 hdec hr X I hL hlen
    simp only [cexec] at hr
    split at hr
    · cases hr
    · rename_i i n hf
      obtain ⟨hd, hn⟩ := hdec pc i n hf
      have ihk := ih mi me hme
      have hsize : L.size = cd.maxLocals := by rw [hL.1, hlen, hml]
      obtain ⟨nF, hnF⟩ := LK.1.1
      unfold cstep at hr
      split at hr
      -- getfield
      · obtain rfl := hn.resolve_left Bool.false_ne_true
        split at hr
        · rename_i r
          split at hr
          · rename_i w hg
            obtain ⟨T', X', q1, st⟩ := st_get LK X hx hZ hown I.1 hg hd (L := L) (r := r.map (va (adr + ·)))
            exact Don.step st (ihk p l e s₀ m args below meth cd T' locs h0 c _ ls (w :: r) s v s' L hx hZ hown hnm hret hml hlk hs0 hdec hr X' (by rw [q1]; exact I) hL hlen)
          · cases hr
        · cases hr
      -- putfield
      · obtain rfl := hn.resolve_left Bool.false_ne_true
        split at hr
        · rename_i w r
          split at hr
          · rename_i s1 hg
            have hini : (mi == 0) = true → meth.name = "<init>" := fun q => by
              have q : mi = 0 := by simpa using q
              subst q; rw [hnm]; exact LK.2.2.2.2.2.2.2.2.2.2.2.2 me hme
            have hw : va (adr + ·) w = w := pfld_va hg _
            obtain ⟨T', locs', X', I', st⟩ := st_put LK X hx hZ hown hna I hini hg hd (L := L) (r := r.map (va (adr + ·)))
            refine Don.step (fun t q => ?_) (ihk p l e s₀ m args below meth cd T' locs' h0 c _ ls r s1 v s' L hx hZ hown hnm hret hml hlk hs0 hdec hr X' I' hL hlen)
            have := st t q
            rw [List.map_cons, hw]; exact this
          · cases hr
        · cases hr
      -- loads of arrays
      · obtain rfl := hn.resolve_left Bool.false_ne_true
        split at hr
        · rename_i st' hg
          exact Don.step (st_lda X hx hZ I.1 hg (Or.inl ⟨rfl, rfl⟩) hd) (ihk p l e s₀ m args below meth cd T locs h0 c _ ls st' s v s' L hx hZ hown hnm hret hml hlk hs0 hdec hr X I hL hlen)
        · cases hr
      · obtain rfl := hn.resolve_left Bool.false_ne_true
        split at hr
        · rename_i st' hg
          exact Don.step (st_lda X hx hZ I.1 hg (Or.inr (Or.inl ⟨rfl, rfl⟩)) hd) (ihk p l e s₀ m args below meth cd T locs h0 c _ ls st' s v s' L hx hZ hown hnm hret hml hlk hs0 hdec hr X I hL hlen)
        · cases hr
      · obtain rfl := hn.resolve_left Bool.false_ne_true
        split at hr
        · rename_i st' hg
          exact Don.step (st_lda X hx hZ I.1 hg (Or.inr (Or.inr ⟨rfl, rfl⟩)) hd) (ihk p l e s₀ m args below meth cd T locs h0 c _ ls st' s v s' L hx hZ hown hnm hret hml hlk hs0 hdec hr X I hL hlen)
        · cases hr
      -- stores into arrays
      · obtain rfl := hn.resolve_left Bool.false_ne_true
        split at hr
        · rename_i st' s1 hg
          obtain ⟨T', locs', X', I', st⟩ := st_sta X hx hZ hna I hg (Or.inl ⟨rfl, rfl⟩) hd (L := L)
          exact Don.step st (ihk p l e s₀ m args below meth cd T' locs' h0 c _ ls st' s1 v s' L hx hZ hown hnm hret hml hlk hs0 hdec hr X' I' hL hlen)
        · cases hr
      · obtain rfl := hn.resolve_left Bool.false_ne_true
        split at hr
        · rename_i st' s1 hg
          obtain ⟨T', locs', X', I', st⟩ := st_sta X hx hZ hna I hg (Or.inr (Or.inl ⟨rfl, rfl⟩)) hd (L := L)
          exact Don.step st (ihk p l e s₀ m args below meth cd T' locs' h0 c _ ls st' s1 v s' L hx hZ hown hnm hret hml hlk hs0 hdec hr X' I' hL hlen)
        · cases hr
      · obtain rfl := hn.resolve_left Bool.false_ne_true
        split at hr
        · rename_i st' s1 hg
          obtain ⟨T', locs', X', I', st⟩ := st_sta X hx hZ hna I hg (Or.inr (Or.inr ⟨rfl, rfl⟩)) hd (L := L)
          exact Don.step st (ihk p l e s₀ m args below meth cd T' locs' h0 c _ ls st' s1 v s' L hx hZ hown hnm hret hml hlk hs0 hdec hr X' I' hL hlen)
        · cases hr
      -- newarray and putfield
      · obtain rfl := hn.resolve_left Bool.false_ne_true
        split at hr
        · rename_i hg
          obtain ⟨rfl, hg⟩ := hg
          obtain ⟨T', locs', X', I', st⟩ := st_new LK hme hnm X hx hZ hown hna (hs0 rfl) I hdec hg hd (L := L)
          exact Don.step st (ihk p l e s₀ m args below meth cd T' locs' h0 (c + 1) _ ls [] s v s' L hx hZ hown hnm hret hml hlk hs0 hdec hr X' I' hL hlen)
        · cases hr
      -- constants
      · obtain rfl := hn.resolve_left Bool.false_ne_true
        split at hr
        · rename_i z hg
          exact Don.step (fun t q => X.ldcI hx hown (mv hZ (LK.2.2.2.2.2.2.1 _ _ hg)) (g := mkF m pc L (st.map (va (adr + ·)))) rfl hd q) (ihk p l e s₀ m args below meth cd T locs h0 c _ ls (.int z :: st) s v s' L hx hZ hown hnm hret hml hlk hs0 hdec hr X I hL hlen)
        · cases hr
      · obtain rfl := hn.resolve_left Bool.false_ne_true
        split at hr
        · rename_i z hg
          exact Don.step (fun t q => X.ldc2J hx hown (mv hZ (LK.2.2.2.2.2.2.1 _ _ hg)) (g := mkF m pc L (st.map (va (adr + ·)))) rfl hd q) (ihk p l e s₀ m args below meth cd T locs h0 c _ ls (.long z :: st) s v s' L hx hZ hown hnm hret hml hlk hs0 hdec hr X I hL hlen)
        · cases hr
      -- Object's constructor
      · obtain rfl := hn.resolve_left Bool.false_ne_true
        split at hr
        · rename_i r
          split at hr
          · rename_i hg
            obtain ⟨rfl, hg1, hg2⟩ := hg
            obtain ⟨w1, w2, w3⟩ := LK.2.2.2.2.2.2.2.1
            obtain ⟨T', X', q1, st⟩ := initO X hx hZ hown w1 w2 w3 rfl (g := mkF m pc L (.ref adr :: r.map (va (adr + ·)))) rfl hsize rfl hd hg1 (W := cats r) (by show 2 * 0 + _ ≤ _; rw [cats_va]; omega) hg2
            exact Don.step st (ihk p l e s₀ m args below meth cd T' locs h0 c _ ls r s v s' L hx hZ hown hnm hret hml hlk hs0 hdec hr X' (by rw [q1]; exact I) hL hlen)
          · cases hr
        · cases hr
      -- a call
      · obtain rfl := hn.resolve_left Bool.false_ne_true
        split at hr
        · cases hr
        · rename_i m' hm'
          split at hr
          · cases hr
          · rename_i me' hme'
            split at hr
            · rename_i r hst
              split at hr
              · rename_i hg
                obtain ⟨hg0, hg1, hg2, hg3⟩ := hg
                dsimp only at hr
                rw [hme'] at hr
                dsimp only at hr
                obtain ⟨bytes, ps, hcode, hdec', hpar, hpl⟩ := LK.2.2.2.2.2.2.2.2.1 m' me' hme'
                obtain ⟨w1, w2, w3⟩ := LK.2.2.2.2.2.2.2.2.2.1 _ _ hm' _ hme'
                by_cases hla : (layA (Value.ref 0 :: (st.take me'.na).reverse)).length ≤ me'.ml
                · rw [if_pos hla] at hr
                  cases hcl : cexec P f m' me' c 0 (lay (.ref 0 :: (st.take me'.na).reverse) me'.ml) [] s with
                  | none => rw [hcl] at hr; cases hr
                  | some vs =>
                    obtain ⟨w, s1⟩ := vs
                    rw [hcl] at hr
                    have hr' : cexec P f mi me c (pc + 3) ls (w.toList ++ r) s1 = some (v, s') := by cases w <;> exact hr
                    have hM := met_of_CW LK hme' (ih m' me' hme') l hdec' (as := .ref 0 :: (st.take me'.na).reverse) (nd_rev (ρ := id) hg3) hla hcl (fun q => absurd q hg0) I.1 (fun q => absurd q hg0)
                    have hB := backOf (R := cRoom P mi me) (p := p) (e := e) (below := below) (s := s₀) (args := args) (len := 3) (W := cats r) hM hZ hcode LK.1.2 hg1 hg2
                    have hdl : me'.na < st.length := by
                      have := congrArg List.length hst
                      simp at this; omega
                    have hsp : st = st.take me'.na ++ .ref 0 :: r := by rw [← hst, List.take_append_drop]
                    have hcell := I.1.1.cell
                    obtain ⟨cel, hc1, hc2⟩ := hcell
                    have key : ∃ (v' : Option Value) (U : State) (Lc : List Loc), Stand p l e (cRoom P mi me) s₀ m args below meth cd U (locs ++ Lc) (co mi c) (zo P mi c) ∧ QC P Z n0 adr m' c w s1 T.heap v' U.heap Lc ∧
                        Steps p.tables e below (T.setTop (mkF m pc L (st.map (va (adr + ·))))) (U.setTop (mkF m (pc + 3) L (v'.toList ++ r.map (va (adr + ·))))) := by
                      have hsm : st.map (va (adr + ·)) = ((st.take me'.na).reverse.map (va (adr + ·))).reverse ++ .ref adr :: r.map (va (adr + ·)) := by
                        conv => lhs; rw [hsp]
                        simp [va]
                      have hll : ∀ sig, parseMethodDescriptor (yOf P me').desc = some sig → ((st.take me'.na).reverse.map (va (adr + ·))).length = sig.parameters.length := lenOf hpar (by simp [hpl]; omega)
                      have hpre : ∀ vm₁, s₀.WarmedH vm₁ → ((Value.ref adr :: (st.take me'.na).reverse.map (va (adr + ·))).toArray = ((Value.ref 0 :: (st.take me'.na).reverse).map (va (adr + ·))).toArray ∧ (T.setVm vm₁).heap = T.heap ∧ co mi c + (cRoom P m' me').cells ≤ (cRoom P mi me).cells ∧ zo P mi c + (cRoom P m' me').slots ≤ (cRoom P mi me).slots) := fun vm₁ _ => by
                        refine ⟨by simp [va], rfl, ?_, ?_⟩
                        · simp only [co, cRoom, if_neg hg0]
                          have := I.1.2.2.2.2
                          split <;> omega
                        · simp only [zo, cRoom, if_neg hg0]
                          have := zs_le P.al c
                          split <;> omega
                      have hz1 : (cRoom P m' me').cells = 0 := by simp [cRoom, hg0]
                      have hz2 : (cRoom P m' me').slots = 0 := by simp [cRoom, hg0]
                      rcases w3 with w3 | ⟨w3, w4⟩
                      · obtain ⟨v', vm₁, ⟨U, lo, ce, sl⟩, -, X', ⟨Lc, hQ, l1, l2, l3⟩, stp⟩ := privCall X hx (y := yOf P me') hown (mv hZ w1) (mv hZ w2) (nF := nF) (mv hZ hnF) (Cond.privateMethod_at (mvP hZ w3 (args := args))) (mv hZ hcode) LK.2.2.2.2.2.2.2.2.2.2.2.1 hB (g := mkF m pc L (st.map (va (adr + ·)))) rfl hsize hc1 hc2 hll hsm (by show 2 * 0 + _ ≤ _; rw [cats_va]; omega) hd hpre
                        dsimp only [Pt.U, Pt.locs, Pt.cells, Pt.slots] at X' hQ l1 l2 l3 stp
                        subst l1 l2 l3
                        rw [hz1, hz2] at X'
                        exact ⟨v', U, Lc, X', hQ, stp⟩
                      · obtain ⟨cq, kq, qa, qb, qc⟩ := isOf hZ rfl I.1.1
                        obtain ⟨v', vm₁, ⟨U, lo, ce, sl⟩, -, X', ⟨Lc, hQ, l1, l2, l3⟩, stp⟩ := X.virtualBack hx (y := yOf P me') (z := yOf P me') hown (mv hZ w1) (mv hZ w3) (notFace_of_selects (args := #[]) (mv hZ w4)) (mv hZ w4) (mv hZ w2) LK.2.2.2.2.2.2.2.2.2.2.2.1 hB qa qc (g := mkF m pc L (st.map (va (adr + ·)))) rfl hsize (Steps.refl _) hll hsm (by show 2 * 0 + _ ≤ _; rw [cats_va]; omega) hd hpre
                        dsimp only [Pt.U, Pt.locs, Pt.cells, Pt.slots] at X' hQ l1 l2 l3 stp
                        subst l1 l2 l3
                        rw [hz1, hz2] at X'
                        exact ⟨v', U, Lc, X', hQ, stp⟩
                    obtain ⟨v', U, Lc, X', ⟨⟨rfl, hva⟩, hF', hH', hK', hS'⟩, stp⟩ := key
                    rw [if_neg hg0] at hH' hS'
                    refine Don.step (fun t q => stp.trans ?_) (ihk p l e s₀ m args below meth cd U (locs ++ Lc) h0 c _ ls (v'.toList ++ r) s1 v s' L hx hZ hown hnm hret hml hlk hs0 hdec hr' X' ⟨hH', I.2.1.app hF', I.2.2.1.trans hK', by rw [hS']; exact I.2.2.2⟩ hL hlen)
                    rw [List.map_append, hva] at q; exact q
                · rw [if_neg hla] at hr; cases hr
              · cases hr
            · cases hr
      -- the rest
      · split at hr
        · split at hr
          · cases hr
          · rename_i h1 hcf
            split at hr
            · rename_i w hw
              cases hr
              have hcf' : mi = 0 → c = P.al.length := fun q => Classical.byContradiction fun z => hcf ⟨q, z⟩
              have hA : HRep P Z T.heap adr (if mi = 0 then P.al.length else c) s := by
                by_cases q : mi = 0
                · rw [if_pos q, ← hcf' q]; exact I.1
                · rw [if_neg q]; exact I.1
              have hB : Array.size T.heap = if mi = 0 then adr + 1 + P.al.length else Array.size h0 := by
                rw [I.2.2.2]
                by_cases q : mi = 0
                · rw [if_pos q, if_pos q, ← hcf' q]
                · rw [if_neg q, if_neg q]
              have hC : co mi c ≤ (cRoom P mi me).cells := by
                simp only [co, cRoom]
                by_cases q : mi = 0
                · rw [if_pos q, if_pos q, ← hcf' q]; exact Nat.le_refl _
                · rw [if_neg q, if_neg q]; exact Nat.le_refl _
              have hD : zo P mi c ≤ (cRoom P mi me).slots := by
                simp only [zo, cRoom]
                by_cases q : mi = 0
                · rw [if_pos q, if_pos q]; exact zs_le _ _
                · rw [if_neg q, if_neg q]; exact Nat.le_refl _
              exact st_ret X hx hret hlk hw hd hn ⟨⟨rfl, cret_va hw⟩, I.2.1, hA, I.2.2.1, hB⟩ hC hD
            · cases hr
        · split at hr
          · rename_i pc' ls' st' hp
            obtain ⟨L', hL', hLs, st⟩ := pstep_sound X hx hp hd hn hL
            have hlen' : ls'.length = me.ml := by rw [← hL'.1, hLs, hL.1]; exact hlen
            exact Don.step st (ihk p l e s₀ m args below meth cd T locs h0 c _ ls' st' s v s' L' hx hZ hown hnm hret hml hlk hs0 hdec hr X I hL' hlen')
          · cases hr
end Jvm.LM

namespace Jvm.LM
open Sem ClassFile Op Lib Jvm.Stand Jvm.Free Jvm.LawKit Jvm.RoadKit
/-! the law's machine: several objects of the class, and one array of ints that it only reads -/
/-- class name, pool to own static method, pool to the class's method, pool index of the constructor, of the class, number of its fields, constants, methods, room: cells, slots -/
abbrev Lw := String × List (Nat × Nat) × List (Nat × Nat) × Nat × Nat × Nat × List (Nat × Value) × List (Nat × Me) × Nat × Nat
def Lw.nm (Q : Lw) : String := Q.1
def Lw.sx (Q : Lw) : List (Nat × Nat) := Q.2.1
def Lw.vx (Q : Lw) : List (Nat × Nat) := Q.2.2.1
def Lw.ci (Q : Lw) : Nat := Q.2.2.2.1
def Lw.cx (Q : Lw) : Nat := Q.2.2.2.2.1
def Lw.nf (Q : Lw) : Nat := Q.2.2.2.2.2.1
def Lw.kx (Q : Lw) : List (Nat × Value) := Q.2.2.2.2.2.2.1
def Lw.ms (Q : Lw) : List (Nat × Me) := Q.2.2.2.2.2.2.2.1
def Lw.rc (Q : Lw) : Nat := Q.2.2.2.2.2.2.2.2.1
def Lw.rs (Q : Lw) : Nat := Q.2.2.2.2.2.2.2.2.2
/-- the objects, how many are made, whether one more is being made -/
abbrev Wd := (Nat → St) × Nat × Bool
abbrev Sc := Option (Nat × (Nat → Int32))
abbrev Rw := Option (Option Value × Wd)
def nr : List Value → Bool
  | [] => true
  | .int _ :: r => nr r
  | .long _ :: r => nr r
  | _ => false
theorem nr_map {l : List Value} (h : nr l = true) (ρ : Nat → Nat) : l.map (va ρ) = l := by
  induction l with
  | nil => rfl
  | cons v r ih => cases v <;> first | (simp only [nr] at h; simp [va, ih h]; done) | (simp [nr] at h)
theorem nr_nd {l : List Value} (h : nr l = true) : nd l = true := by
  induction l with
  | nil => rfl
  | cons v r ih => cases v <;> first | (simp only [nr] at h; simp [nd, ih h]; done) | (simp [nr] at h)
def uo (w : Nat → St) (o : Nat) (s : St) : Nat → St := fun i => if i = o then s else w i
def lstep {α : Type} (P : Cl) (Q : Lw) (sc : Sc) (mi : Nat) (me : Me) (rt : Option Value → Wd → Option α) (cc : Nat → Nat → List Value → St → Rs) (cl : Nat → List Value → Wd → Rw) (k : Nat → Lv → List Value → Wd → Option α) (i : Instr) (pc : Nat) (ls : Lv) (st : List Value) (w : Wd) : Option α :=
  match i with
  | .iaload => match sc, st with
    | some (n, g), .int j :: .ref 0 :: r => if inb n j then k (pc + 1) ls (.int (g (ix j)) :: r) w else none
    | _, _ => none
  | .arraylength => match sc, st with
    | some (n, _), .ref 0 :: r => k (pc + 1) ls (.int (Int32.ofNat n) :: r) w
    | _, _ => none
  | .ldc x => match asc Q.kx x with | some (.int z) => k (pc + 2) ls (.int z :: st) w | _ => none
  | .ldc2_w x => match asc Q.kx x with | some (.long z) => k (pc + 3) ls (.long z :: st) w | _ => none
  | .new x => if mi = 0 ∧ x = Q.cx ∧ w.2.2 = false ∧ (w.2.1 + 1) * (P.al.length + 1) ≤ Q.rc ∧ (w.2.1 + 1) * (Q.nf + zs P.al P.al.length) ≤ Q.rs then
      k (pc + 3) ls (.ref (w.2.1 + 1) :: st) (uo w.1 w.2.1 s0, w.2.1, true) else none
  | .invokespecial x => match asc P.ms 0 with
    | none => none
    | some me' => match st.drop me'.na with
      | .ref (o + 1) :: r => if x = Q.ci ∧ mi = 0 ∧ o = w.2.1 ∧ w.2.2 = true ∧ me'.rf + 1 ≤ me.rf ∧ cats r + (me'.ml + 11) + me'.rl ≤ me.rl ∧ nr (st.take me'.na) = true ∧ (w.2.1 + 1) * (P.al.length + 1) ≤ Q.rc ∧ (w.2.1 + 1) * (Q.nf + zs P.al P.al.length) ≤ Q.rs then
          (match cc 0 0 (.ref 0 :: (st.take me'.na).reverse) (w.1 o) with
           | some (none, s') => k (pc + 3) ls r (uo w.1 o s', w.2.1 + 1, false)
           | _ => none) else none
      | _ => none
  | .invokevirtual x => match asc Q.vx x with
    | none => none
    | some m' => match asc P.ms m' with
      | none => none
      | some me' => match st.drop me'.na with
        | .ref (o + 1) :: r => if m' ≠ 0 ∧ o < w.2.1 ∧ me'.rf + 1 ≤ me.rf ∧ cats r + (me'.ml + 11) + me'.rl ≤ me.rl ∧ nr (st.take me'.na) = true then
            (match cc m' P.al.length (.ref 0 :: (st.take me'.na).reverse) (w.1 o) with
             | some (none, s') => k (pc + 3) ls r (uo w.1 o s', w.2.1, w.2.2)
             | some (some v, s') => k (pc + 3) ls (v :: r) (uo w.1 o s', w.2.1, w.2.2)
             | none => none) else none
        | _ => none
  | .invokestatic x => match asc Q.sx x with
    | none => none
    | some m' => match asc Q.ms m' with
      | none => none
      | some me' => if m' ≠ 0 ∧ me'.na ≤ st.length ∧ me'.rf + 1 ≤ me.rf ∧ cats (st.drop me'.na) + (me'.ml + 11) + me'.rl ≤ me.rl ∧ nd (st.take me'.na) = true then
          (match cl m' (st.take me'.na).reverse w with
           | some (none, w') => k (pc + 3) ls (st.drop me'.na) w'
           | some (some v, w') => k (pc + 3) ls (v :: st.drop me'.na) w'
           | none => none) else none
  | i => if isRet i = true then (match cret me st i with | some v => rt v w | none => none)
    else match pstep i pc ls st with | some (pc', ls', st') => k pc' ls' st' w | none => none
def lexec (P : Cl) (Q : Lw) (sc : Sc) : Nat → Nat → Me → Nat → Lv → List Value → Wd → Rw
  | 0, _, _, _, _, _, _ => none
  | f + 1, mi, me, pc, ls, st, w => match fetch me.cd pc with
    | none => none
    | some (i, _) => lstep P Q sc mi me (fun v w => some (v, w)) (ccall P f) (fun m' as w => match asc Q.ms m' with | some me' => (if (layA as).length ≤ me'.ml then lexec P Q sc f m' me' 0 (lay as me'.ml) [] w else none) | none => none) (lexec P Q sc f mi me) i pc ls st w
theorem lexec_cnt {P : Cl} {Q : Lw} {sc : Sc} : ∀ f mi me pc ls st w v w', mi ≠ 0 → lexec P Q sc f mi me pc ls st w = some (v, w') → w'.2 = w.2 := by
  intro f
  induction f with
  | zero => intro mi me pc ls st w v w' _ h; cases h
  | succ f ih =>
    intro mi me pc ls st w v w' h0 h
    simp only [lexec] at h
    split at h
    · cases h
    · unfold lstep at h
      split at h
      · split at h
        · split at h
          · exact ih _ _ _ _ _ _ _ _ h0 h
          · cases h
        · cases h
      · split at h
        · exact ih _ _ _ _ _ _ _ _ h0 h
        · cases h
      · split at h
        · exact ih _ _ _ _ _ _ _ _ h0 h
        · cases h
      · split at h
        · exact ih _ _ _ _ _ _ _ _ h0 h
        · cases h
      · split at h
        · rename_i q; exact absurd q.1 h0
        · cases h
      · split at h
        · cases h
        · split at h
          · split at h
            · rename_i q; exact absurd q.2.1 h0
            · cases h
          · cases h
      · split at h
        · cases h
        · split at h
          · cases h
          · split at h
            · split at h
              · split at h
                · exact (ih _ _ _ _ _ _ _ _ h0 h).trans rfl
                · exact (ih _ _ _ _ _ _ _ _ h0 h).trans rfl
                · cases h
              · cases h
            · cases h
      · split at h
        · cases h
        · split at h
          · cases h
          · rename_i me' hme'
            split at h
            · rename_i hg
              dsimp only at h
              rw [hme'] at h
              dsimp only at h
              split at h
              · rename_i w2 hc
                split at hc
                · exact (ih _ _ _ _ _ _ _ _ h0 h).trans (ih _ _ _ _ _ _ _ _ hg.1 hc)
                · cases hc
              · rename_i u w2 hc
                split at hc
                · exact (ih _ _ _ _ _ _ _ _ h0 h).trans (ih _ _ _ _ _ _ _ _ hg.1 hc)
                · cases hc
              · cases h
            · cases h
      · split at h
        · split at h
          · cases h; rfl
          · cases h
        · split at h
          · exact ih _ _ _ _ _ _ _ _ h0 h
          · cases h
def lcall (P : Cl) (Q : Lw) (sc : Sc) (f m' : Nat) (as : List Value) (w : Wd) : Rw := match asc Q.ms m' with | some me' => (if (layA as).length ≤ me'.ml then lexec P Q sc f m' me' 0 (lay as me'.ml) [] w else none) | none => none
def zOf (Q : Lw) (me : Me) : MethodName := ⟨Q.nm, me.nm, me.ds⟩
def LinkL (P : Cl) (Q : Lw) (Z : State) (a0 : Array Value) : Prop :=
  ((Cond.classLink Q.nm Q.cx P.nm).before a0 Z = true ∧ (Cond.instantiable P.nm Q.nf).before a0 Z = true) ∧
  (∀ me, asc P.ms 0 = some me → (Cond.methodLink Q.nm Q.ci (yOf P me)).before a0 Z = true ∧ (Cond.instanceMethod (yOf P me)).before a0 Z = true ∧ me.rt = 0) ∧
  (∀ x m', asc Q.vx x = some m' → ∀ me, asc P.ms m' = some me → (Cond.methodLink Q.nm x (yOf P me)).before a0 Z = true ∧ (Cond.declares (yOf P me)).before a0 Z = true ∧ (Cond.instanceMethod (yOf P me)).before a0 Z = true ∧ (Cond.selects P.nm (yOf P me) (yOf P me)).before a0 Z = true) ∧
  (∀ x m', asc Q.sx x = some m' → ∀ me, asc Q.ms m' = some me → (Cond.methodLink Q.nm x (zOf Q me)).before a0 Z = true ∧ (Cond.static (zOf Q me)).before a0 Z = true ∧ (Cond.initialized Q.nm).before a0 Z = true) ∧
  (∀ x v, asc Q.kx x = some v → match v with
    | .int z => (Cond.constant Q.nm x z).before a0 Z = true
    | .long z => (Cond.constantLong Q.nm x z).before a0 Z = true
    | _ => True) ∧
  (∀ mi me, asc Q.ms mi = some me → mi ≠ 0 → ∃ (bytes : ByteArray) (ps : List FieldType), (Cond.code (zOf Q me) bytes me.ml (retOf me.rt)).before a0 Z = true ∧
    (∀ pc i n, fetch me.cd pc = some (i, n) → decode bytes pc = .ok (i, n) ∧ (isSw i = true ∨ n = ilen i)) ∧ parseMethodDescriptor me.ds = some ⟨ps, retOf me.rt⟩ ∧ ps.length = me.na) ∧
  plainName Q.nm = true ∧ (Q.nm ≠ "java/lang/invoke/MethodHandle" ∧ Q.nm ≠ "java/lang/invoke/VarHandle")
def rho (a n0 K : Nat) : Nat → Nat
  | 0 => a
  | o + 1 => n0 + o * K
def SRep (Z : State) (h : Heap) (a n0 : Nat) (sc : Sc) : Prop :=
  match sc with
  | none => True
  | some (n, g) => a < n0 ∧ ∃ cl : Cell, Arr Z h a cl .int ∧ cl.slots.size = n ∧ ∀ i, i < n → cl.slots[i]? = some (.int (g i))
def LRep (P : Cl) (Z : State) (h : Heap) (a n0 : Nat) (sc : Sc) (w : Wd) : Prop :=
  SRep Z h a n0 sc ∧ (∀ o, o < w.2.1 → HRep P Z h (n0 + o * (P.al.length + 1)) P.al.length (w.1 o)) ∧
  (w.2.2 = true → HRep P Z h (n0 + w.2.1 * (P.al.length + 1)) 0 (w.1 w.2.1)) ∧ h.size = n0 + w.2.1 * (P.al.length + 1) + (if w.2.2 = true then 1 else 0)
def lRoom (Q : Lw) (mi : Nat) (me : Me) : Room := { frames := me.rf, cells := if mi = 0 then Q.rc else 0, slots := if mi = 0 then Q.rs else 0, locals := me.rl }
def QL (P : Cl) (Z : State) (a n0 : Nat) (sc : Sc) (v : Option Value) (w' : Wd) (u : Option Value) (h : Heap) (L : List Loc) : Prop :=
  (u = v ∧ ∀ ρ, u.toList.map (va ρ) = u.toList) ∧ Fr n0 L ∧ LRep P Z h a n0 sc w'
def lco (P : Cl) (mi : Nat) (w : Wd) : Nat := if mi = 0 then w.2.1 * (P.al.length + 1) + (if w.2.2 = true then 1 else 0) else 0
def lzo (P : Cl) (Q : Lw) (mi : Nat) (w : Wd) : Nat := if mi = 0 then w.2.1 * (Q.nf + zs P.al P.al.length) + (if w.2.2 = true then Q.nf else 0) else 0
def LW (P : Cl) (Q : Lw) (sc : Sc) (Z : State) (a n0 f mi : Nat) (me : Me) : Prop :=
  ∀ (p : Program) (l : Launch) (e : Env) (s₀ : State) (m : MethodId) (args : Array Value) (below : List Frame) (meth : Method) (cd : Code) (T : State) (locs : List Loc) (pc : Nat) (ls : Lv) (st : List Value) (w : Wd) (v : Option Value) (w' : Wd) (L : Array Slot),
    p.tables.exec = Jvm.exec → Z.Warmed39 s₀.vm → s₀.vm.findClass Q.nm = some m.cls → meth.sig.returnType = retOf me.rt → cd.maxLocals = me.ml → meth.locks = false → (mi = 0 → s₀.heap.size = n0) →
    (∀ pc i n, fetch me.cd pc = some (i, n) → decode cd.code pc = .ok (i, n) ∧ (isSw i = true ∨ n = ilen i)) →
    lexec P Q sc f mi me pc ls st w = some (v, w') →
    Stand p l e (lRoom Q mi me) s₀ m args below meth cd T locs (lco P mi w) (lzo P Q mi w) → w.2.1 * (P.al.length + 1) + (if w.2.2 = true then 1 else 0) ≤ (lRoom Q 0 me).cells → w.2.1 * (Q.nf + zs P.al P.al.length) + (if w.2.2 = true then Q.nf else 0) ≤ (lRoom Q 0 me).slots →
    LRep P Z T.heap a n0 sc w → Fr n0 locs → LR (rho a n0 (P.al.length + 1)) ls L → ls.length = me.ml →
    Don p e below s₀ (lRoom Q mi me) (QL P Z a n0 sc v w') (T.setTop (mkF m pc L (st.map (va (rho a n0 (P.al.length + 1))))))
theorem met_of_LW {P : Cl} {Q : Lw} {sc : Sc} {Z : State} {a0 : Array Value} (LL : LinkL P Q Z a0) {a n0 f mi : Nat} {me : Me} (hW : LW P Q sc Z a n0 f mi me) (hmi : mi ≠ 0) (l : Launch) {bytes : ByteArray}
    (hdec : ∀ pc i n, fetch me.cd pc = some (i, n) → decode bytes pc = .ok (i, n) ∧ (isSw i = true ∨ n = ilen i))
    {as : List Value} (hd : ∀ v ∈ as, ∀ x, v ≠ .double x) (hlen : (layA as).length ≤ me.ml) {w w' : Wd} {v : Option Value} {h : Heap} (hr : lexec P Q sc f mi me 0 (lay as me.ml) [] w = some (v, w'))
    (hc1 : w.2.1 * (P.al.length + 1) + (if w.2.2 = true then 1 else 0) ≤ Q.rc) (hc2 : w.2.1 * (Q.nf + zs P.al P.al.length) + (if w.2.2 = true then Q.nf else 0) ≤ Q.rs)
    (H : LRep P Z h a n0 sc w) :
    MetFree l (zOf Q me) (head1 [Cond.code (zOf Q me) bytes me.ml (retOf me.rt)] (lRoom Q mi me)) (fun b U => b = (as.map (va (rho a n0 (P.al.length + 1)))).toArray ∧ Z.Warmed39 U.vm ∧ U.heap = h) (fun _ _ _ _ _ => True)
      (fun _ U o U' => ∃ u L, o = .returned u ∧ QL P Z a n0 sc v w' u U'.heap L ∧ FrameEnd U o U' L (lRoom Q mi me).cells (lRoom Q mi me).slots) := by
  refine MetFree.of_bodySF (plainFor_of_name LL.2.2.2.2.2.2.1) hisR ?_
  intro p e s₀ m args below meth cd s₁ Bd hml hP hK
  obtain ⟨rfl, hZ, hh⟩ := hP
  have e0 : s₁.heap = h := by rw [← hh, Bd.state]; rfl
  have X0 : Stand p l e (lRoom Q mi me) s₀ m _ below meth cd s₁ [] 0 0 := Stand.of_body Bd
  have hown : s₀.vm.findClass Q.nm = some m.cls := findClass_of_methodNamed Bd.named
  have hk0 : lco P mi w = 0 := by simp [lco, hmi]
  have hz0 : lzo P Q mi w = 0 := by simp [lzo, hmi]
  have D := hW p l e s₀ m _ below meth cd s₁ [] 0 (lay as me.ml) [] w v w' _ Bd.exec hZ hown Bd.returns hml Bd.notSynchronized (fun q => absurd q hmi)
    (fun pc i n q => by rw [Bd.bytes]; exact hdec pc i n q) hr (by rw [hk0, hz0]; exact X0) (by simpa [lRoom] using hc1) (by simpa [lRoom] using hc2) (by rw [e0]; exact H) (Fr.nil n0) (lay_LR hd hlen) (lay_len hlen)
  obtain ⟨s₂, o, a1, a2, a3, u, L, a4, a5, a6⟩ := D
  exact ⟨s₂, o, a1, a2, a3, u, L, a4, a5, a6⟩
end Jvm.LM

namespace Jvm.LM
open Sem ClassFile Op Lib Jvm.Stand Jvm.Free Jvm.LawKit Jvm.RoadKit
theorem rng {a b K : Nat} (h : a < b) : a * K + K ≤ b * K := by
  have := Nat.mul_le_mul_right K (show a + 1 ≤ b from h)
  rw [Nat.succ_mul] at this; exact this
theorem SRep.congr {Z : State} {h h' : Heap} {a n0 : Nat} {sc : Sc} (H : SRep Z h a n0 sc) (e : ∀ x, x < n0 → h'[x]? = h[x]?) : SRep Z h' a n0 sc := by
  unfold SRep at H ⊢
  split
  · trivial
  · obtain ⟨h1, cl, ⟨q1, q2⟩, q3⟩ := H
    exact ⟨h1, cl, ⟨by rw [e a h1]; exact q1, q2⟩, q3⟩
/-- one object has moved, the others stand -/
theorem LRep.call {P : Cl} {Z : State} {h h' : Heap} {a n0 o : Nat} {sc : Sc} {w : Wd} {s' : St} (H : LRep P Z h a n0 sc w) (ho : o < w.2.1) (K : Kp h h' (n0 + o * (P.al.length + 1)) P.al.length) (hs : h'.size = h.size) (H' : HRep P Z h' (n0 + o * (P.al.length + 1)) P.al.length s') :
    LRep P Z h' a n0 sc (uo w.1 o s', w.2.1, w.2.2) := by
  obtain ⟨h1, h2, h3, h4⟩ := H
  refine ⟨h1.congr fun x hx => K x (Or.inl (by omega)), fun o' ho' => ?_, fun q => ?_, by rw [hs]; exact h4⟩
  · by_cases e : o' = o
    · subst e; simpa [uo] using H'
    · have := (h2 o' ho').congr (h' := h') fun x hx1 hx2 => K x (by
        rcases Nat.lt_or_gt_of_ne e with q | q
        · have := rng (K := P.al.length + 1) q; omega
        · have := rng (K := P.al.length + 1) q; omega)
      simpa [uo, e] using this
  · have e : w.2.1 ≠ o := by omega
    have := (h3 q).congr (h' := h') fun x hx1 hx2 => K x (by have := rng (K := P.al.length + 1) ho; omega)
    simpa [uo, e] using this
theorem ar1 {x k r y : Nat} (e : y = x + (k + 1)) (h : y ≤ r) : x + 1 + k ≤ r := by omega
theorem ar3 {x k y : Nat} (h : y = x + (k + 1)) : y + 0 = x + 1 + k := by omega
theorem ar4 {x f z y : Nat} (h : y = x + (f + z)) : y + 0 = x + f + z := by omega
theorem ar5 {x f z r y : Nat} (e : y = x + (f + z)) (h : y ≤ r) : x + f + z ≤ r := by omega
theorem ar6 {n x k y : Nat} (h : y = x + (k + 1)) : n + x + 1 + k = n + y + 0 := by omega
theorem lwalk {P : Cl} {Q : Lw} {sc : Sc} {Z : State} {a0 : Array Value} (LK : LinkC P Z a0) (LL : LinkL P Q Z a0) {a n0 : Nat} : ∀ f mi me, asc Q.ms mi = some me → LW P Q sc Z a n0 f mi me := by
  intro f
  induction f with
  | zero =>
    intro mi me hme p l e s₀ m args below meth cd T locs pc ls st w v w' L hx hZ hown hret hml hlk hs0 hdec hr
    cases hr
  | succ f ih =>
    intro mi me hme p l e s₀ m args below meth cd T locs pc ls st w v w' L hx hZ hown hret hml hlk hs0 hdec hr X hc1 hc2 I hFr hL hlen
    simp only [lexec] at hr
    split at hr
    · cases hr
    · rename_i i n hf
      obtain ⟨hd, hn⟩ := hdec pc i n hf
      have ihk := ih mi me hme
      have hsize : L.size = cd.maxLocals := by rw [hL.1, hlen, hml]
      unfold lstep at hr
      split at hr
      -- iaload
      · obtain rfl := hn.resolve_left Bool.false_ne_true
        split at hr
        · rename_i N g j r
          split at hr
          · rename_i hin
            obtain ⟨ha, cl, A, hN, hv⟩ : SRep Z T.heap a n0 (some (N, g)) := I.1
            refine Don.step (fun t q => ?_) (ihk p l e s₀ m args below meth cd T locs _ ls (.int (g (ix j)) :: r) w v w' L hx hZ hown hret hml hlk hs0 hdec hr X hc1 hc2 I hFr hL hlen)
            exact X.iaload hx A.1 (State.isArrayOf_alike hZ.alike A.2.1) A.2.2 (by rw [hN]; exact inb_not hin) (hv (ix j) (inb_ix hin)) (g := mkF m pc L (.int j :: .ref a :: r.map (va (rho a n0 (P.al.length + 1))))) rfl rfl hd t q
          · cases hr
        · cases hr
      -- arraylength
      · obtain rfl := hn.resolve_left Bool.false_ne_true
        split at hr
        · rename_i N g r
          obtain ⟨ha, cl, A, hN, hv⟩ : SRep Z T.heap a n0 (some (N, g)) := I.1
          refine Don.step (fun t q => ?_) (ihk p l e s₀ m args below meth cd T locs _ ls (.int (Int32.ofNat N) :: r) w v w' L hx hZ hown hret hml hlk hs0 hdec hr X hc1 hc2 I hFr hL hlen)
          exact X.arraylength hx A.1 (State.isArrayOf_alike hZ.alike A.2.1) (g := mkF m pc L (.ref a :: r.map (va (rho a n0 (P.al.length + 1))))) rfl rfl hd t (by rw [hN]; exact q)
        · cases hr
      -- constants
      · obtain rfl := hn.resolve_left Bool.false_ne_true
        split at hr
        · rename_i z hg
          exact Don.step (fun t q => X.ldcI hx hown (mv hZ (LL.2.2.2.2.1 _ _ hg)) (g := mkF m pc L (st.map (va (rho a n0 (P.al.length + 1))))) rfl hd q) (ihk p l e s₀ m args below meth cd T locs _ ls (.int z :: st) w v w' L hx hZ hown hret hml hlk hs0 hdec hr X hc1 hc2 I hFr hL hlen)
        · cases hr
      · obtain rfl := hn.resolve_left Bool.false_ne_true
        split at hr
        · rename_i z hg
          exact Don.step (fun t q => X.ldc2J hx hown (mv hZ (LL.2.2.2.2.1 _ _ hg)) (g := mkF m pc L (st.map (va (rho a n0 (P.al.length + 1))))) rfl hd q) (ihk p l e s₀ m args below meth cd T locs _ ls (.long z :: st) w v w' L hx hZ hown hret hml hlk hs0 hdec hr X hc1 hc2 I hFr hL hlen)
        · cases hr
      -- new
      · obtain rfl := hn.resolve_left Bool.false_ne_true
        split at hr
        · rename_i hg
          obtain ⟨rfl, rfl, hp, hg1, hg2⟩ := hg
          obtain ⟨os, cnt, pend⟩ := w
          dsimp only at hp hg1 hg2 hr
          subst hp
          have hk : lco P 0 (os, cnt, false) = cnt * (P.al.length + 1) := by simp [lco]
          have hz : lzo P Q 0 (os, cnt, false) = cnt * (Q.nf + zs P.al P.al.length) := by simp [lzo]
          have m1 : (cnt + 1) * (P.al.length + 1) = cnt * (P.al.length + 1) + (P.al.length + 1) := Nat.succ_mul ..
          have m2 : (cnt + 1) * (Q.nf + zs P.al P.al.length) = cnt * (Q.nf + zs P.al P.al.length) + (Q.nf + zs P.al P.al.length) := Nat.succ_mul ..
          rw [hk, hz] at X
          obtain ⟨T', h', X', q1, E, A, D, -, st1⟩ := newO X hx hZ hown LL.1.1 LL.1.2 LK.1.2 rfl (g := mkF m pc L (st.map (va (rho a n0 (P.al.length + 1))))) rfl hd (by simp only [lRoom, if_true]; omega) (by simp only [lRoom, if_true]; omega)
          obtain ⟨i1, i2, i3, i4⟩ := I
          have hsz : T.heap.size = n0 + cnt * (P.al.length + 1) := by simpa using i4
          have hsz' : h'.size = n0 + cnt * (P.al.length + 1) + 1 := by
            have g1 : T'.heap.size ≤ s₀.heap.size + (cnt * (P.al.length + 1) + 1) := X'.heapSize
            have g2 : T.heap.size < Array.size h' := A.lt
            rw [q1, hs0 rfl] at g1
            rw [hsz] at g2
            omega
          have same : ∀ x, x < T.heap.size → h'[x]? = T.heap[x]? := fun x hx => by
            obtain ⟨cc, hcc⟩ : ∃ cc, T.heap[x]? = some cc := ⟨T.heap[x], Array.getElem?_eq_getElem hx⟩
            rw [hcc]; exact E.2 _ _ hcc
          have I' : LRep P Z T'.heap a n0 sc (uo os cnt s0, cnt, true) := by
            rw [q1]
            refine ⟨i1.congr fun x hx => same x (by omega), fun o ho => ?_, fun _ => ?_, by simpa using hsz'⟩
            · have := (i2 o ho).congr (h' := h') fun x hx1 hx2 => same x (by have := rng (K := P.al.length + 1) (show o < cnt from ho); omega)
              simpa [uo, show o ≠ cnt from Nat.ne_of_lt ho] using this
            · simp only [uo, if_true]
              rw [hsz] at A D
              refine ⟨A, fun k fe hk => ?_, fun j tt N hj hc => absurd hc (Nat.not_lt_zero _), fun j i hj => ⟨rfl, rfl⟩, Nat.zero_le _⟩
              have q := D (laid_of LK hk) (LK.2.2.2.1 k fe hk)
              have e2 : Fval (n0 + cnt * (P.al.length + 1)) 0 s0 k fe = defaultValue (fkTy P fe.2.2.1) := by
                simp only [Fval]; split
                · rename_i e3; rw [e3]; rfl
                · rename_i e3; rw [e3]; rfl
                · rename_i e3; rw [e3]; rfl
                · rename_i e3; rw [e3]; rfl
              rw [e2]; exact q
          refine Don.step (fun t q => st1 t ?_) (ihk p l e s₀ m args below meth cd T' locs _ ls (.ref (cnt + 1) :: st) _ v w' L hx hZ hown hret hml hlk hs0 hdec hr (by simpa [lco, lzo] using X') (by simp only [lRoom, if_true]; omega) (by simp only [lRoom, if_true]; omega) I' hFr hL hlen)
          rw [hsz]; exact q
        · cases hr
      -- the constructor
      · obtain rfl := hn.resolve_left Bool.false_ne_true
        split at hr
        · cases hr
        · rename_i me' hme'
          split at hr
          · rename_i o r hst
            split at hr
            · rename_i hg
              obtain ⟨rfl, rfl, hgo, hp, hg1, hg2, hg3, hg4, hg5⟩ := hg
              obtain ⟨os, cnt, pend⟩ := w
              dsimp only at hgo hp hg1 hg2 hr hg4 hg5
              subst hp hgo
              obtain ⟨bytes, ps, hcode, hdec', hpar, hpl⟩ := LK.2.2.2.2.2.2.2.2.1 0 me' hme'
              obtain ⟨w1, w2, hrt⟩ := LL.2.1 me' hme'
              have hcode' := hcode
              rw [hrt] at hcode'
              have hini := LK.2.2.2.2.2.2.2.2.2.2.2.2 me' hme'
              have m1 : (o + 1) * (P.al.length + 1) = o * (P.al.length + 1) + (P.al.length + 1) := Nat.succ_mul ..
              have m2 : (o + 1) * (Q.nf + zs P.al P.al.length) = o * (Q.nf + zs P.al P.al.length) + (Q.nf + zs P.al P.al.length) := Nat.succ_mul ..
              simp only [ccall, hme'] at hr
              by_cases hla : (layA (Value.ref 0 :: (st.take me'.na).reverse)).length ≤ me'.ml
              · rw [if_pos hla] at hr
                cases hcl : cexec P f 0 me' 0 0 (lay (.ref 0 :: (st.take me'.na).reverse) me'.ml) [] (os o) with
                | none => rw [hcl] at hr; cases hr
                | some vs =>
                  obtain ⟨u, s1⟩ := vs
                  rw [hcl] at hr
                  cases u with
                  | some u => cases hr
                  | none =>
                    dsimp only at hr
                    obtain ⟨i1, i2, i3, i4⟩ := I
                    have hsz : T.heap.size = n0 + o * (P.al.length + 1) + 1 := by simpa using i4
                    have hM := met_of_CW LK hme' (cwalk LK (n0 := n0) (adr := n0 + o * (P.al.length + 1)) (Nat.le_add_right _ _) f 0 me' hme') l hdec' (as := .ref 0 :: (st.take me'.na).reverse) (nd_rev (ρ := id) (nr_nd hg3)) hla hcl (fun _ => rfl) (i3 rfl) (fun _ => hsz)
                    have hB := backOf (R := lRoom Q 0 me) (p := p) (e := e) (below := below) (s := s₀) (args := args) (len := 3) (W := cats r) hM hZ hcode LK.1.2 hg1 hg2
                    have hdl : me'.na < st.length := by
                      have := congrArg List.length hst
                      simp at this; omega
                    have hsp : st = st.take me'.na ++ .ref (o + 1) :: r := by rw [← hst, List.take_append_drop]
                    have hrv : ∀ ρ : Nat → Nat, (st.take me'.na).reverse.map (va ρ) = (st.take me'.na).reverse := fun ρ => by rw [List.map_reverse, nr_map hg3]
                    have hsm : st.map (va (rho a n0 (P.al.length + 1))) = ((st.take me'.na).reverse).reverse ++ .ref (n0 + o * (P.al.length + 1)) :: r.map (va (rho a n0 (P.al.length + 1))) := by
                      conv => lhs; rw [hsp]
                      rw [List.map_append, nr_map hg3]; simp [va, rho]
                    have hll : ∀ sig, parseMethodDescriptor (yOf P me').desc = some sig → ((st.take me'.na).reverse).length = sig.parameters.length := lenOf hpar (by simp [hpl]; omega)
                    have hk : lco P 0 (os, o, true) = o * (P.al.length + 1) + 1 := by simp [lco]
                    have hz : lzo P Q 0 (os, o, true) = o * (Q.nf + zs P.al P.al.length) + Q.nf := by simp [lzo]
                    rw [hk, hz] at X
                    have hpre : ∀ vm₁, s₀.WarmedH vm₁ → ((Value.ref (n0 + o * (P.al.length + 1)) :: (st.take me'.na).reverse).toArray = ((Value.ref 0 :: (st.take me'.na).reverse).map (va ((n0 + o * (P.al.length + 1)) + ·))).toArray ∧ (T.setVm vm₁).heap = T.heap ∧ o * (P.al.length + 1) + 1 + (cRoom P 0 me').cells ≤ (lRoom Q 0 me).cells ∧ o * (Q.nf + zs P.al P.al.length) + Q.nf + (cRoom P 0 me').slots ≤ (lRoom Q 0 me).slots) := fun vm₁ _ => by
                      refine ⟨by rw [List.map_cons, hrv]; rfl, rfl, ?_, ?_⟩
                      · show o * (P.al.length + 1) + 1 + P.al.length ≤ Q.rc
                        exact ar1 m1 hg4
                      · show o * (Q.nf + zs P.al P.al.length) + Q.nf + zs P.al P.al.length ≤ Q.rs
                        exact ar5 m2 hg5
                    obtain ⟨v', vm₁, ⟨U, lo, ce, sl⟩, -, X', ⟨Lc, hQ, l1, l2, l3⟩, stp⟩ := X.specialBack hx (y := yOf P me') hini hown (mv hZ w1) (mv hZ w2) (mv hZ hcode') LK.2.2.2.2.2.2.2.2.2.2.2.1 hB (g := mkF m pc L (st.map (va (rho a n0 (P.al.length + 1))))) rfl hsize (Steps.refl _) hll hsm (by show 2 * 0 + _ ≤ _; rw [cats_va]; omega) hd hpre
                    dsimp only [Pt.U, Pt.locs, Pt.cells, Pt.slots] at X' hQ l1 l2 l3 stp
                    subst l1 l2 l3
                    obtain ⟨⟨rfl, -⟩, hF', hH', hK', hS'⟩ := hQ
                    rw [if_pos rfl] at hH' hS'
                    have I' : LRep P Z U.heap a n0 sc (uo os o s1, o + 1, false) := by
                      refine ⟨i1.congr fun x hx => hK' x (Or.inl (by omega)), fun o' ho' => ?_, fun q => by simp at q, by rw [hS']; show n0 + o * (P.al.length + 1) + 1 + P.al.length = n0 + (o + 1) * (P.al.length + 1) + 0; exact ar6 m1⟩
                      by_cases e2 : o' = o
                      · subst e2; simpa [uo] using hH'
                      · have ho2 : o' < o := by have : o' < o + 1 := ho'; omega
                        have := (i2 o' ho2).congr (h' := U.heap) fun x hx1 hx2 => hK' x (by have := rng (K := P.al.length + 1) ho2; omega)
                        simpa [uo, e2] using this
                    refine Don.step (fun t q => stp.trans q) (ihk p l e s₀ m args below meth cd U (locs ++ Lc) _ ls r _ v w' L hx hZ hown hret hml hlk hs0 hdec hr ?_ (by show (o + 1) * (P.al.length + 1) + 0 ≤ Q.rc; omega) (by show (o + 1) * (Q.nf + zs P.al P.al.length) + 0 ≤ Q.rs; omega) I' (hFr.app hF') hL hlen)
                    have h1 : lco P 0 (uo os o s1, o + 1, false) = o * (P.al.length + 1) + 1 + (cRoom P 0 me').cells := by
                      show (o + 1) * (P.al.length + 1) + 0 = o * (P.al.length + 1) + 1 + P.al.length
                      exact ar3 m1
                    have h2 : lzo P Q 0 (uo os o s1, o + 1, false) = o * (Q.nf + zs P.al P.al.length) + Q.nf + (cRoom P 0 me').slots := by
                      show (o + 1) * (Q.nf + zs P.al P.al.length) + 0 = o * (Q.nf + zs P.al P.al.length) + Q.nf + zs P.al P.al.length
                      exact ar4 m2
                    rw [h1, h2]; exact X'
              · rw [if_neg hla] at hr; cases hr
            · cases hr
          · cases hr
      -- a method of the class
      · obtain rfl := hn.resolve_left Bool.false_ne_true
        split at hr
        · cases hr
        · rename_i m' hm'
          split at hr
          · cases hr
          · rename_i me' hme'
            split at hr
            · rename_i o r hst
              split at hr
              · rename_i hg
                obtain ⟨hg0, hgo, hg1, hg2, hg3⟩ := hg
                obtain ⟨bytes, ps, hcode, hdec', hpar, hpl⟩ := LK.2.2.2.2.2.2.2.2.1 m' me' hme'
                obtain ⟨w1, w2, w3, w4⟩ := LL.2.2.1 _ _ hm' me' hme'
                simp only [ccall, hme'] at hr
                by_cases hla : (layA (Value.ref 0 :: (st.take me'.na).reverse)).length ≤ me'.ml
                · rw [if_pos hla] at hr
                  cases hcl : cexec P f m' me' P.al.length 0 (lay (.ref 0 :: (st.take me'.na).reverse) me'.ml) [] (w.1 o) with
                  | none => rw [hcl] at hr; cases hr
                  | some vs =>
                    obtain ⟨u, s1⟩ := vs
                    rw [hcl] at hr
                    have hr' : lexec P Q sc f mi me (pc + 3) ls (u.toList ++ r) (uo w.1 o s1, w.2.1, w.2.2) = some (v, w') := by cases u <;> exact hr
                    have hM := met_of_CW LK hme' (cwalk LK (n0 := n0) (adr := n0 + o * (P.al.length + 1)) (Nat.le_add_right _ _) f m' me' hme') l hdec' (as := .ref 0 :: (st.take me'.na).reverse) (nd_rev (ρ := id) (nr_nd hg3)) hla hcl (fun q => absurd q hg0) (I.2.1 o hgo) (fun q => absurd q hg0)
                    have hB := backOf (R := lRoom Q mi me) (p := p) (e := e) (below := below) (s := s₀) (args := args) (len := 3) (W := cats r) hM hZ hcode LK.1.2 hg1 hg2
                    have hdl : me'.na < st.length := by
                      have := congrArg List.length hst
                      simp at this; omega
                    have hsp : st = st.take me'.na ++ .ref (o + 1) :: r := by rw [← hst, List.take_append_drop]
                    have hrv : ∀ ρ : Nat → Nat, (st.take me'.na).reverse.map (va ρ) = (st.take me'.na).reverse := fun ρ => by rw [List.map_reverse, nr_map hg3]
                    have hsm : st.map (va (rho a n0 (P.al.length + 1))) = ((st.take me'.na).reverse).reverse ++ .ref (n0 + o * (P.al.length + 1)) :: r.map (va (rho a n0 (P.al.length + 1))) := by
                      conv => lhs; rw [hsp]
                      rw [List.map_append, nr_map hg3]; simp [va, rho]
                    have hll : ∀ sig, parseMethodDescriptor (yOf P me').desc = some sig → ((st.take me'.na).reverse).length = sig.parameters.length := lenOf hpar (by simp [hpl]; omega)
                    have hz1 : (cRoom P m' me').cells = 0 := by simp [cRoom, hg0]
                    have hz2 : (cRoom P m' me').slots = 0 := by simp [cRoom, hg0]
                    have hpre : ∀ vm₁, s₀.WarmedH vm₁ → ((Value.ref (n0 + o * (P.al.length + 1)) :: (st.take me'.na).reverse).toArray = ((Value.ref 0 :: (st.take me'.na).reverse).map (va ((n0 + o * (P.al.length + 1)) + ·))).toArray ∧ (T.setVm vm₁).heap = T.heap ∧ lco P mi w + (cRoom P m' me').cells ≤ (lRoom Q mi me).cells ∧ lzo P Q mi w + (cRoom P m' me').slots ≤ (lRoom Q mi me).slots) := fun vm₁ _ => by
                      refine ⟨by rw [List.map_cons, hrv]; rfl, rfl, ?_, ?_⟩
                      · rw [hz1]; simp only [lco, lRoom] at *; split
                        · simpa using hc1
                        · exact Nat.le_refl _
                      · rw [hz2]; simp only [lzo, lRoom] at *; split
                        · simpa using hc2
                        · exact Nat.le_refl _
                    obtain ⟨cq, kq, qa, qb, qc⟩ := isOf hZ rfl (I.2.1 o hgo).1
                    obtain ⟨v', vm₁, ⟨U, lo, ce, sl⟩, -, X', ⟨Lc, hQ, l1, l2, l3⟩, stp⟩ := X.virtualBack hx (y := yOf P me') (z := yOf P me') hown (mv hZ w1) (mv hZ w2) (notFace_of_selects (args := #[]) (mv hZ w4)) (mv hZ w4) (mv hZ w3) LK.2.2.2.2.2.2.2.2.2.2.2.1 hB qa qc (g := mkF m pc L (st.map (va (rho a n0 (P.al.length + 1))))) rfl hsize (Steps.refl _) hll hsm (by show 2 * 0 + _ ≤ _; rw [cats_va]; omega) hd hpre
                    dsimp only [Pt.U, Pt.locs, Pt.cells, Pt.slots] at X' hQ l1 l2 l3 stp
                    subst l1 l2 l3
                    obtain ⟨⟨rfl, hva⟩, hF', hH', hK', hS'⟩ := hQ
                    rw [if_neg hg0] at hH' hS'
                    rw [hz1, hz2] at X'
                    refine Don.step (fun t q => stp.trans ?_) (ihk p l e s₀ m args below meth cd U (locs ++ Lc) _ ls (v'.toList ++ r) _ v w' L hx hZ hown hret hml hlk hs0 hdec hr' X' hc1 hc2 (I.call hgo hK' hS' hH') (hFr.app hF') hL hlen)
                    rw [List.map_append, hva] at q; exact q
                · rw [if_neg hla] at hr; cases hr
              · cases hr
            · cases hr
      -- a static method of the law
      · obtain rfl := hn.resolve_left Bool.false_ne_true
        split at hr
        · cases hr
        · rename_i m' hm'
          split at hr
          · cases hr
          · rename_i me' hme'
            split at hr
            · rename_i hg
              obtain ⟨hg0, hgn, hg1, hg2, hg3⟩ := hg
              obtain ⟨bytes, ps, hcode, hdec', hpar, hpl⟩ := LL.2.2.2.2.2.1 m' me' hme' hg0
              obtain ⟨w1, w2, w3⟩ := LL.2.2.2.1 _ _ hm' me' hme'
              dsimp only at hr
              rw [hme'] at hr
              dsimp only at hr
              by_cases hla : (layA (st.take me'.na).reverse).length ≤ me'.ml
              · rw [if_pos hla] at hr
                cases hcl : lexec P Q sc f m' me' 0 (lay (st.take me'.na).reverse me'.ml) [] w with
                | none => rw [hcl] at hr; cases hr
                | some vs =>
                  obtain ⟨u, w2'⟩ := vs
                  rw [hcl] at hr
                  have hr' : lexec P Q sc f mi me (pc + 3) ls (u.toList ++ st.drop me'.na) w2' = some (v, w') := by cases u <;> exact hr
                  have hndv : ∀ v ∈ (st.take me'.na).reverse, ∀ x, v ≠ .double x := fun v hv x e => nd_spec hg3 v (List.mem_reverse.mp hv) x e
                  have hM := met_of_LW LL (ih m' me' hme') hg0 l hdec' (as := (st.take me'.na).reverse) hndv hla hcl (by simpa [lRoom] using hc1) (by simpa [lRoom] using hc2) I
                  have hB := backOf (R := lRoom Q mi me) (p := p) (e := e) (below := below) (s := s₀) (args := args) (len := 3) (W := cats (st.drop me'.na)) hM hZ hcode w3 hg1 hg2
                  have hsm : st.map (va (rho a n0 (P.al.length + 1))) = (((st.take me'.na).reverse).map (va (rho a n0 (P.al.length + 1)))).reverse ++ (st.drop me'.na).map (va (rho a n0 (P.al.length + 1))) := by
                    conv => lhs; rw [← List.take_append_drop me'.na st]
                    simp
                  have hll : ∀ sig, parseMethodDescriptor (zOf Q me').desc = some sig → (((st.take me'.na).reverse).map (va (rho a n0 (P.al.length + 1)))).length = sig.parameters.length := lenOf hpar (by simp [hpl]; omega)
                  have hz1 : (lRoom Q m' me').cells = 0 := by simp [lRoom, hg0]
                  have hz2 : (lRoom Q m' me').slots = 0 := by simp [lRoom, hg0]
                  have hpre : ∀ vm₁, s₀.WarmedH vm₁ → ((((st.take me'.na).reverse).map (va (rho a n0 (P.al.length + 1)))).toArray = (((st.take me'.na).reverse).map (va (rho a n0 (P.al.length + 1)))).toArray ∧ (T.setVm vm₁).heap = T.heap ∧ lco P mi w + (lRoom Q m' me').cells ≤ (lRoom Q mi me).cells ∧ lzo P Q mi w + (lRoom Q m' me').slots ≤ (lRoom Q mi me).slots) := fun vm₁ _ => by
                    refine ⟨rfl, rfl, ?_, ?_⟩
                    · rw [hz1]; simp only [lco, lRoom] at *; split
                      · simpa using hc1
                      · exact Nat.le_refl _
                    · rw [hz2]; simp only [lzo, lRoom] at *; split
                      · simpa using hc2
                      · exact Nat.le_refl _
                  obtain ⟨v', vm₁, ⟨U, lo, ce, sl⟩, -, X', ⟨Lc, hQ, l1, l2, l3⟩, stp⟩ := Jvm.LawKit.callS X hx (y := zOf Q me') hown (mv hZ w1) (mv hZ w2) (mv hZ w3) (mv hZ hcode) LL.2.2.2.2.2.2.2 hB (g := mkF m pc L (st.map (va (rho a n0 (P.al.length + 1))))) rfl hsize hll hsm (by show 2 * 0 + _ ≤ _; rw [cats_va]; omega) hd hpre
                  dsimp only [Pt.U, Pt.locs, Pt.cells, Pt.slots] at X' hQ l1 l2 l3 stp
                  subst l1 l2 l3
                  obtain ⟨⟨rfl, hva⟩, hF', hI'⟩ := hQ
                  rw [hz1, hz2] at X'
                  have hcn := lexec_cnt _ _ _ _ _ _ _ _ _ hg0 hcl
                  have e1 : lco P mi w2' = lco P mi w := by simp only [lco, hcn]
                  have e2 : lzo P Q mi w2' = lzo P Q mi w := by simp only [lzo, hcn]
                  refine Don.step (fun t q => stp t ?_) (ihk p l e s₀ m args below meth cd U (locs ++ Lc) _ ls (v'.toList ++ st.drop me'.na) _ v w' L hx hZ hown hret hml hlk hs0 hdec hr' (by rw [e1, e2]; exact X') (by rw [hcn]; exact hc1) (by rw [hcn]; exact hc2) hI' (hFr.app hF') hL hlen)
                  rw [List.map_append, hva] at q; exact q
              · rw [if_neg hla] at hr; cases hr
            · cases hr
      -- the rest
      · split at hr
        · split at hr
          · rename_i u hu
            cases hr
            refine st_ret X hx hret hlk hu hd hn ⟨⟨rfl, cret_va hu⟩, hFr, I⟩ ?_ ?_
            · simp only [lco, lRoom] at *; split
              · simpa using hc1
              · exact Nat.le_refl _
            · simp only [lzo, lRoom] at *; split
              · simpa using hc2
              · exact Nat.le_refl _
          · cases hr
        · split at hr
          · rename_i pc' ls' st' hp
            obtain ⟨L', hL', hLs, st⟩ := pstep_sound X hx hp hd hn hL
            have hlen' : ls'.length = me.ml := by rw [← hL'.1, hLs, hL.1]; exact hlen
            exact Don.step st (ihk p l e s₀ m args below meth cd T locs _ ls' st' w v w' L' hx hZ hown hret hml hlk hs0 hdec hr X hc1 hc2 I hFr hL' hlen')
          · cases hr
/-- the law as a whole: what the machine returns, the program returns -/
theorem law_met {P : Cl} {Q : Lw} {sc : Sc} {Z : State} {a0 : Array Value} (LK : LinkC P Z a0) (LL : LinkL P Q Z a0) {a f : Nat} {me : Me} (hme : asc Q.ms 0 = some me) (l : Launch) {bytes : ByteArray} {ws : List Cond}
    (hdec : ∀ pc i n, fetch me.cd pc = some (i, n) → decode bytes pc = .ok (i, n) ∧ (isSw i = true ∨ n = ilen i))
    {as : List Value} (hnd : nd as = true) (hlen : (layA as).length ≤ me.ml) {v : Option Value} {w' : Wd} {h : Heap} (hr : lexec P Q sc f 0 me 0 (lay as me.ml) [] (fun _ => s0, 0, false) = some (v, w')) (hS : SRep Z h a h.size sc) :
    MetFree l (zOf Q me) (head1 (Cond.code (zOf Q me) bytes me.ml (retOf me.rt) :: ws) (lRoom Q 0 me)) (fun b U => b = (as.map (va (rho a h.size (P.al.length + 1)))).toArray ∧ Z.Warmed39 U.vm ∧ U.heap = h) (fun _ _ _ _ _ => True)
      (fun _ U o U' => ∃ u L, o = .returned u ∧ (u = v ∧ Fr h.size L) ∧ FrameEnd U o U' L Q.rc Q.rs) := by
  refine MetFree.of_bodySF (plainFor_of_name LL.2.2.2.2.2.2.1) hisR ?_
  intro p e s₀ m args below meth cd s₁ Bd hml hP hK
  obtain ⟨rfl, hZ, hh⟩ := hP
  have e0 : s₁.heap = h := by rw [← hh, Bd.state]; rfl
  have X0 : Stand p l e (lRoom Q 0 me) s₀ m _ below meth cd s₁ [] 0 0 := Stand.of_body Bd
  have hown : s₀.vm.findClass Q.nm = some m.cls := findClass_of_methodNamed Bd.named
  have hk0 : lco P 0 (fun _ => s0, 0, false) = 0 := by simp [lco]
  have hz0 : lzo P Q 0 (fun _ => s0, 0, false) = 0 := by simp [lzo]
  have D := lwalk LK LL (sc := sc) (a := a) (n0 := h.size) f 0 me hme p l e s₀ m _ below meth cd s₁ [] 0 (lay as me.ml) [] (fun _ => s0, 0, false) v w' _ Bd.exec hZ hown Bd.returns hml Bd.notSynchronized (fun _ => by rw [hh])
    (fun pc i n q => by rw [Bd.bytes]; exact hdec pc i n q) hr (by rw [hk0, hz0]; exact X0) (by simp) (by simp) (by
      rw [e0]; exact ⟨hS, fun o ho => absurd ho (Nat.not_lt_zero _), fun q => by simp at q, by simp⟩) (Fr.nil _) (lay_LR (nd_spec hnd) hlen) (lay_len hlen)
  obtain ⟨s₂, o, a1, a2, a3, u, L, a4, a5, a6⟩ := D
  refine ⟨s₂, o, a1, a2, a3, u, L, a4, ⟨a5.1.1, a5.2.1⟩, ?_⟩
  simpa [lRoom] using a6
end Jvm.LM

namespace Jvm.LM
open Sem ClassFile Op Lib Jvm.Stand Jvm.Free Jvm.LawKit Jvm.RoadKit
/-! what a run of the machine comes to -/
theorem cstep_mono {α : Type} {P : Cl} {mi : Nat} {me : Me} {rt : Option Value → St → Option α} {cl cl' : Nat → Nat → List Value → St → Rs} {k k' : Nat → Nat → Lv → List Value → St → Option α} {i : Instr} {c pc : Nat} {ls : Lv} {st : List Value} {s : St} {r : α}
    (hcl : ∀ m c as s r, cl m c as s = some r → cl' m c as s = some r) (hk : ∀ c pc ls st s r, k c pc ls st s = some r → k' c pc ls st s = some r) (h : cstep P mi me rt cl k i c pc ls st s = some r) : cstep P mi me rt cl' k' i c pc ls st s = some r := by
  unfold cstep at h ⊢
  split at h
  all_goals (try dsimp only)
  · split at h
    · split at h
      · exact hk _ _ _ _ _ _ h
      · cases h
    · cases h
  · split at h
    · split at h
      · exact hk _ _ _ _ _ _ h
      · cases h
    · cases h
  · split at h
    · exact hk _ _ _ _ _ _ h
    · cases h
  · split at h
    · exact hk _ _ _ _ _ _ h
    · cases h
  · split at h
    · exact hk _ _ _ _ _ _ h
    · cases h
  · split at h
    · exact hk _ _ _ _ _ _ h
    · cases h
  · split at h
    · exact hk _ _ _ _ _ _ h
    · cases h
  · split at h
    · exact hk _ _ _ _ _ _ h
    · cases h
  · split at h
    · rename_i q; rw [if_pos q]; exact hk _ _ _ _ _ _ h
    · cases h
  · split at h
    · exact hk _ _ _ _ _ _ h
    · cases h
  · split at h
    · exact hk _ _ _ _ _ _ h
    · cases h
  · split at h
    · split at h
      · rename_i q; rw [if_pos q]; exact hk _ _ _ _ _ _ h
      · cases h
    · cases h
  · split at h
    · cases h
    · rename_i m' hm'
      split at h
      · cases h
      · rename_i me' hme'
        split at h
        · rename_i r0 hst
          split at h
          · rename_i q
            rw [if_pos q]
            split at h
            · rename_i s1 hc; rw [hcl _ _ _ _ _ hc]; exact hk _ _ _ _ _ _ h
            · rename_i v1 s1 hc; rw [hcl _ _ _ _ _ hc]; exact hk _ _ _ _ _ _ h
            · cases h
          · cases h
        · cases h
  · split at h
    · rename_i q; rw [if_pos q]; exact h
    · rename_i q; rw [if_neg q]
      split at h
      · exact hk _ _ _ _ _ _ h
      · cases h
theorem cexec_succ {P : Cl} : ∀ f mi me c pc ls st s r, cexec P f mi me c pc ls st s = some r → cexec P (f + 1) mi me c pc ls st s = some r := by
  intro f
  induction f with
  | zero => intro mi me c pc ls st s r h; cases h
  | succ f ih =>
    intro mi me c pc ls st s r h
    rw [cexec] at h ⊢
    split at h
    · cases h
    · refine cstep_mono (fun m c as s r h => ?_) (fun c pc ls st s r h => ih _ _ _ _ _ _ _ _ h) h
      split at h
      · split at h
        · rename_i q; rw [if_pos q]; exact ih _ _ _ _ _ _ _ _ h
        · cases h
      · cases h
theorem cexec_le {P : Cl} {f g mi : Nat} {me : Me} {c pc : Nat} {ls : Lv} {st : List Value} {s : St} {r : Option Value × St} (hfg : f ≤ g) (h : cexec P f mi me c pc ls st s = some r) : cexec P g mi me c pc ls st s = some r := by
  obtain ⟨d, rfl⟩ := Nat.le.dest hfg
  induction d with
  | zero => exact h
  | succ d ih => exact cexec_succ _ _ _ _ _ _ _ _ _ (ih (Nat.le_add_right _ _))
theorem ccall_le {P : Cl} {f g m' c : Nat} {as : List Value} {s : St} {r : Option Value × St} (hfg : f ≤ g) (h : ccall P f m' c as s = some r) : ccall P g m' c as s = some r := by
  unfold ccall at h ⊢
  split at h
  · split at h
    · rename_i q; rw [if_pos q]; exact cexec_le hfg h
    · cases h
  · cases h
def wpc (P : Cl) (mi : Nat) (me : Me) (c pc : Nat) (ls : Lv) (st : List Value) (s : St) (Q : Option Value → St → Prop) : Prop := ∃ f v s', cexec P f mi me c pc ls st s = some (v, s') ∧ Q v s'
def cal (P : Cl) (m' c : Nat) (as : List Value) (s : St) (Q : Option Value → St → Prop) : Prop := ∃ f v s', ccall P f m' c as s = some (v, s') ∧ Q v s'
def calI (P : Cl) (m' c : Nat) (as : List Value) (s : St) (Q : Int32 → St → Prop) : Prop := cal P m' c as s fun r s' => ∃ v, r = some (.int v) ∧ Q v s'
def calL (P : Cl) (m' c : Nat) (as : List Value) (s : St) (Q : Int64 → St → Prop) : Prop := cal P m' c as s fun r s' => ∃ v, r = some (.long v) ∧ Q v s'
def calV (P : Cl) (m' c : Nat) (as : List Value) (s : St) (Q : St → Prop) : Prop := cal P m' c as s fun r s' => r = none ∧ Q s'
theorem cstep_nat {α : Type} {P : Cl} {mi : Nat} {me : Me} {k : Nat → Nat → Lv → List Value → St → Option α} {i : Instr} {c pc : Nat} {ls : Lv} {st : List Value} {s : St} {x : α}
    (h : cstep P mi me (fun _ _ => none) (fun _ _ _ _ => none) k i c pc ls st s = some x) : ∃ c' pc' ls' st' s', k c' pc' ls' st' s' = some x ∧ ∀ (β : Type) (rt : Option Value → St → Option β) cl (k' : Nat → Nat → Lv → List Value → St → Option β), cstep P mi me rt cl k' i c pc ls st s = k' c' pc' ls' st' s' := by
  unfold cstep at h
  split at h
  · split at h
    · split at h
      · rename_i q; exact ⟨_, _, _, _, _, h, fun β rt cl k' => by simp only [cstep, q]⟩
      · cases h
    · cases h
  · split at h
    · split at h
      · rename_i q; exact ⟨_, _, _, _, _, h, fun β rt cl k' => by simp only [cstep, q]⟩
      · cases h
    · cases h
  · split at h
    · rename_i q; exact ⟨_, _, _, _, _, h, fun β rt cl k' => by simp only [cstep, q]⟩
    · cases h
  · split at h
    · rename_i q; exact ⟨_, _, _, _, _, h, fun β rt cl k' => by simp only [cstep, q]⟩
    · cases h
  · split at h
    · rename_i q; exact ⟨_, _, _, _, _, h, fun β rt cl k' => by simp only [cstep, q]⟩
    · cases h
  · split at h
    · rename_i q; exact ⟨_, _, _, _, _, h, fun β rt cl k' => by simp only [cstep, q]⟩
    · cases h
  · split at h
    · rename_i q; exact ⟨_, _, _, _, _, h, fun β rt cl k' => by simp only [cstep, q]⟩
    · cases h
  · split at h
    · rename_i q; exact ⟨_, _, _, _, _, h, fun β rt cl k' => by simp only [cstep, q]⟩
    · cases h
  · split at h
    · rename_i q; exact ⟨_, _, _, _, _, h, fun β rt cl k' => by simp only [cstep]; rw [if_pos q]⟩
    · cases h
  · split at h
    · rename_i q; exact ⟨_, _, _, _, _, h, fun β rt cl k' => by simp only [cstep, q]⟩
    · cases h
  · split at h
    · rename_i q; exact ⟨_, _, _, _, _, h, fun β rt cl k' => by simp only [cstep, q]⟩
    · cases h
  · split at h
    · split at h
      · rename_i q; exact ⟨_, _, _, _, _, h, fun β rt cl k' => by simp only [cstep]; rw [if_pos q]⟩
      · cases h
    · cases h
  · split at h
    · cases h
    · split at h
      · cases h
      · split at h
        · split at h
          · cases h
          · cases h
        · cases h
  · rename_i n1 n2 n3 n4 n5 n6 n7 n8 n9 n10 n11 n12 n13
    split at h
    · split at h
      · cases h
      · split at h <;> cases h
    · rename_i hr
      split at h
      · rename_i pc' ls' st' hp
        refine ⟨_, _, _, _, _, h, fun β rt cl k' => ?_⟩
        unfold cstep
        split <;> first | (exfalso; first | exact n1 _ rfl | exact n2 _ rfl | exact n3 rfl | exact n4 rfl | exact n5 rfl | exact n6 rfl | exact n7 rfl | exact n8 rfl | exact n9 _ rfl | exact n10 _ rfl | exact n11 _ rfl | exact n12 _ rfl | exact n13 _ rfl) | skip
        rw [if_neg hr, hp]
      · cases h
def csl (P : Cl) (mi : Nat) (me : Me) : Nat → Nat → Nat → Lv → List Value → St → Option (Nat × Nat × Lv × List Value × St)
  | 0, c, pc, ls, st, s => some (c, pc, ls, st, s)
  | n + 1, c, pc, ls, st, s => match fetch me.cd pc with
    | none => none
    | some (i, _) => cstep P mi me (fun _ _ => none) (fun _ _ _ _ => none) (csl P mi me n) i c pc ls st s
theorem wpc_one {P : Cl} {mi : Nat} {me : Me} {c pc c' pc' : Nat} {ls ls' : Lv} {st st' : List Value} {s s' : St} {Q : Option Value → St → Prop} {i : Instr} {n : Nat} (hf : fetch me.cd pc = some (i, n))
    (h : ∀ (rt : Option Value → St → Rs) cl (k : Nat → Nat → Lv → List Value → St → Rs), cstep P mi me rt cl k i c pc ls st s = k c' pc' ls' st' s') (hq : wpc P mi me c' pc' ls' st' s' Q) : wpc P mi me c pc ls st s Q := by
  obtain ⟨f, v, s2, h1, h2⟩ := hq
  refine ⟨f + 1, v, s2, ?_, h2⟩
  rw [cexec, hf]; dsimp only; rw [h]; exact h1
theorem wpc_sl {P : Cl} {mi : Nat} {me : Me} {Q : Option Value → St → Prop} : ∀ {n c pc c' pc' : Nat} {ls ls' : Lv} {st st' : List Value} {s s' : St}, csl P mi me n c pc ls st s = some (c', pc', ls', st', s') → wpc P mi me c' pc' ls' st' s' Q → wpc P mi me c pc ls st s Q := by
  intro n
  induction n with
  | zero => intro c pc c' pc' ls ls' st st' s s' h hq; cases h; exact hq
  | succ n ih =>
    intro c pc c' pc' ls ls' st st' s s' h hq
    simp only [csl] at h
    split at h
    · cases h
    · rename_i i m hf
      obtain ⟨c1, pc1, ls1, st1, s1, h1, h2⟩ := cstep_nat h
      exact wpc_one hf (fun rt cl k => h2 _ rt cl k) (ih h1 hq)
theorem wpc_ret {P : Cl} {mi : Nat} {me : Me} {c pc : Nat} {ls : Lv} {st : List Value} {s : St} {Q : Option Value → St → Prop} {i : Instr} {n : Nat} {v : Option Value} (hf : fetch me.cd pc = some (i, n)) (hr : isRet i = true) (hc : mi = 0 → c = P.al.length) (h : cret me st i = some v) (hq : Q v s) : wpc P mi me c pc ls st s Q := by
  refine ⟨1, v, s, ?_, hq⟩
  rw [cexec, hf]; dsimp only
  have hc' : ¬ (mi = 0 ∧ c ≠ P.al.length) := fun q => q.2 (hc q.1)
  cases i <;> first | (cases hr; done) | (simp only [cstep]; rw [if_pos hr, if_neg hc', h])
theorem wpc_if {P : Cl} {mi : Nat} {me : Me} {c pc a b : Nat} {ls : Lv} {r : List Value} {s : St} {Q : Option Value → St → Prop} {cd : ClassFile.Cond} {o : Int} {n : Nat} {x : Int32} (hf : fetch me.cd pc = some (.ifCond cd o, n)) (ho : 0 ≤ (pc : Int) + o) (ha : jmp pc o = a) (hb : pc + 3 = b)
    (hq : wpc P mi me c (br cd x 0 a b) ls r s Q) : wpc P mi me c pc ls (.int x :: r) s Q := by
  subst ha hb
  refine wpc_one hf (fun rt cl k => ?_) hq
  show (match pstep (.ifCond cd o) pc ls (.int x :: r) with | some (pc', ls', st') => k c pc' ls' st' s | none => none) = _
  simp only [pstep, qstep]; rw [if_pos ho]
theorem wpc_icmp {P : Cl} {mi : Nat} {me : Me} {c pc a b : Nat} {ls : Lv} {r : List Value} {s : St} {Q : Option Value → St → Prop} {cd : ClassFile.Cond} {o : Int} {n : Nat} {x y : Int32} (hf : fetch me.cd pc = some (.if_icmp cd o, n)) (ho : 0 ≤ (pc : Int) + o) (ha : jmp pc o = a) (hb : pc + 3 = b)
    (hq : wpc P mi me c (br cd x y a b) ls r s Q) : wpc P mi me c pc ls (.int y :: .int x :: r) s Q := by
  subst ha hb
  refine wpc_one hf (fun rt cl k => ?_) hq
  show (match pstep (.if_icmp cd o) pc ls (.int y :: .int x :: r) with | some (pc', ls', st') => k c pc' ls' st' s | none => none) = _
  simp only [pstep, qstep]; rw [if_pos ho]
/-- the two roads of a branch -/
theorem wpc_br {P : Cl} {mi : Nat} {me : Me} {c a b : Nat} {ls : Lv} {st : List Value} {s : St} {Q : Option Value → St → Prop} {p : Prop} [Decidable p] (h : (p → wpc P mi me c a ls st s Q) ∧ (¬ p → wpc P mi me c b ls st s Q)) : wpc P mi me c (if p then a else b) ls st s Q := by
  by_cases hp : p
  · rw [if_pos hp]; exact h.1 hp
  · rw [if_neg hp]; exact h.2 hp
theorem wpc_lda {P : Cl} {mi : Nat} {me : Me} {c pc a tt N : Nat} {ls : Lv} {r : List Value} {s : St} {Q : Option Value → St → Prop} {i : Instr} {n : Nat} {j : Int32} (hf : fetch me.cd pc = some (i, n)) (hi : (tt = 0 ∧ i = .iaload) ∨ (tt = 1 ∧ i = .baload) ∨ (tt = 2 ∧ i = .laload)) (ha : P.al[a]? = some (tt, N)) (hac : a < c)
    (hj : inb N j) (hq : wpc P mi me c (pc + 1) ls (elv tt s (a + 1) (ix j) :: r) s Q) : wpc P mi me c pc ls (.int j :: .ref (a + 1) :: r) s Q := by
  have hl : lda P tt c (.int j :: .ref (a + 1) :: r) s = some (elv tt s (a + 1) (ix j) :: r) := by
    simp only [lda, ha]; rw [if_pos ⟨trivial, hac⟩, if_pos hj]; rfl
  refine wpc_one hf (fun rt cl k => ?_) hq
  rcases hi with ⟨rfl, rfl⟩ | ⟨rfl, rfl⟩ | ⟨rfl, rfl⟩ <;> simp only [cstep, hl]
theorem wpc_sta {P : Cl} {mi : Nat} {me : Me} {c pc a tt N : Nat} {ls : Lv} {r : List Value} {s s' : St} {Q : Option Value → St → Prop} {i : Instr} {n : Nat} {j : Int32} {v : Value} (hf : fetch me.cd pc = some (i, n)) (hi : (tt = 0 ∧ i = .iastore ∧ ∃ z, v = .int z ∧ s' = sI s (a + 1) (ix j) z) ∨ (tt = 1 ∧ i = .bastore ∧ ∃ z, v = .int z ∧ s' = sI s (a + 1) (ix j) (z &&& 1)) ∨ (tt = 2 ∧ i = .lastore ∧ ∃ z, v = .long z ∧ s' = sL s (a + 1) (ix j) z)) (ha : P.al[a]? = some (tt, N)) (hac : a < c)
    (hj : inb N j) (hq : wpc P mi me c (pc + 1) ls r s' Q) : wpc P mi me c pc ls (v :: .int j :: .ref (a + 1) :: r) s Q := by
  have hl : sta P tt c (v :: .int j :: .ref (a + 1) :: r) s = some (r, s') := by
    simp only [sta, ha]; rw [if_pos ⟨trivial, hac⟩, if_pos hj]
    rcases hi with ⟨rfl, -, z, rfl, rfl⟩ | ⟨rfl, -, z, rfl, rfl⟩ | ⟨rfl, -, z, rfl, rfl⟩ <;> rfl
  refine wpc_one hf (fun rt cl k => ?_) hq
  rcases hi with ⟨rfl, rfl, -⟩ | ⟨rfl, rfl, -⟩ | ⟨rfl, rfl, -⟩ <;> simp only [cstep, hl]
theorem wpc_call {P : Cl} {mi : Nat} {me me' : Me} {c pc x m' : Nat} {ls : Lv} {st r as : List Value} {s : St} {Q : Option Value → St → Prop} {n : Nat} (hf : fetch me.cd pc = some (.invokevirtual x, n)) (hm : asc P.mx x = some m') (hme : asc P.ms m' = some me') (hst : st.drop me'.na = .ref 0 :: r) (has : (st.take me'.na).reverse = as)
    (hg : m' ≠ 0 ∧ me'.rf + 1 ≤ me.rf ∧ cats r + (me'.ml + 11) + me'.rl ≤ me.rl ∧ nd (st.take me'.na) = true)
    (hq : cal P m' c (.ref 0 :: as) s fun v s' => wpc P mi me c (pc + 3) ls (v.toList ++ r) s' Q) : wpc P mi me c pc ls st s Q := by
  subst has
  obtain ⟨f1, v, s1, h1, f2, v2, s2, h2, h3⟩ := hq
  refine ⟨max f1 f2 + 1, v2, s2, ?_, h3⟩
  have h1' := ccall_le (Nat.le_max_left f1 f2) h1
  have h2' := cexec_le (Nat.le_max_right f1 f2) h2
  rw [cexec, hf]; dsimp only
  simp only [cstep, hm, hme, hst]
  rw [if_pos hg]
  simp only [ccall, hme] at h1'
  rw [h1']
  cases v <;> exact h2'
theorem cal_of {P : Cl} {m' c : Nat} {as : List Value} {s : St} {Q : Option Value → St → Prop} {me : Me} {ls : Lv} (hme : asc P.ms m' = some me) (hl : (layA as).length ≤ me.ml) (hls : lay as me.ml = ls) (h : wpc P m' me c 0 ls [] s Q) : cal P m' c as s Q := by
  subst hls
  obtain ⟨f, v, s', h1, h2⟩ := h
  refine ⟨f, v, s', ?_, h2⟩
  simp only [ccall, hme]; rw [if_pos hl]; exact h1
theorem cal.mono {P : Cl} {m' c : Nat} {as : List Value} {s : St} {Q Q' : Option Value → St → Prop} (h : cal P m' c as s Q) (hq : ∀ v s', Q v s' → Q' v s') : cal P m' c as s Q' := by
  obtain ⟨f, v, s', h1, h2⟩ := h; exact ⟨f, v, s', h1, hq _ _ h2⟩
theorem calI.mono {P : Cl} {m' c : Nat} {as : List Value} {s : St} {Q Q' : Int32 → St → Prop} (h : calI P m' c as s Q) (hq : ∀ v s', Q v s' → Q' v s') : calI P m' c as s Q' := cal.mono h fun _ _ ⟨v, e, q⟩ => ⟨v, e, hq _ _ q⟩
theorem calL.mono {P : Cl} {m' c : Nat} {as : List Value} {s : St} {Q Q' : Int64 → St → Prop} (h : calL P m' c as s Q) (hq : ∀ v s', Q v s' → Q' v s') : calL P m' c as s Q' := cal.mono h fun _ _ ⟨v, e, q⟩ => ⟨v, e, hq _ _ q⟩
theorem calV.mono {P : Cl} {m' c : Nat} {as : List Value} {s : St} {Q Q' : St → Prop} (h : calV P m' c as s Q) (hq : ∀ s', Q s' → Q' s') : calV P m' c as s Q' := cal.mono h fun _ _ ⟨e, q⟩ => ⟨e, hq _ q⟩
theorem wpc.mono {P : Cl} {mi : Nat} {me : Me} {c pc : Nat} {ls : Lv} {st : List Value} {s : St} {Q Q' : Option Value → St → Prop} (h : wpc P mi me c pc ls st s Q) (hq : ∀ v s', Q v s' → Q' v s') : wpc P mi me c pc ls st s Q' := by
  obtain ⟨f, v, s', h1, h2⟩ := h; exact ⟨f, v, s', h1, hq _ _ h2⟩
theorem wpc_callI {P : Cl} {mi : Nat} {me me' : Me} {c pc x m' : Nat} {ls : Lv} {st r as : List Value} {s : St} {Q : Option Value → St → Prop} {n : Nat} (hf : fetch me.cd pc = some (.invokevirtual x, n)) (hm : asc P.mx x = some m') (hme : asc P.ms m' = some me') (hst : st.drop me'.na = .ref 0 :: r) (has : (st.take me'.na).reverse = as)
    (hg : m' ≠ 0 ∧ me'.rf + 1 ≤ me.rf ∧ cats r + (me'.ml + 11) + me'.rl ≤ me.rl ∧ nd (st.take me'.na) = true)
    (hq : calI P m' c (.ref 0 :: as) s fun v s' => wpc P mi me c (pc + 3) ls (.int v :: r) s' Q) : wpc P mi me c pc ls st s Q :=
  wpc_call hf hm hme hst has hg (cal.mono hq fun _ _ ⟨v, e, q⟩ => by subst e; exact q)
theorem wpc_callL {P : Cl} {mi : Nat} {me me' : Me} {c pc x m' : Nat} {ls : Lv} {st r as : List Value} {s : St} {Q : Option Value → St → Prop} {n : Nat} (hf : fetch me.cd pc = some (.invokevirtual x, n)) (hm : asc P.mx x = some m') (hme : asc P.ms m' = some me') (hst : st.drop me'.na = .ref 0 :: r) (has : (st.take me'.na).reverse = as)
    (hg : m' ≠ 0 ∧ me'.rf + 1 ≤ me.rf ∧ cats r + (me'.ml + 11) + me'.rl ≤ me.rl ∧ nd (st.take me'.na) = true)
    (hq : calL P m' c (.ref 0 :: as) s fun v s' => wpc P mi me c (pc + 3) ls (.long v :: r) s' Q) : wpc P mi me c pc ls st s Q :=
  wpc_call hf hm hme hst has hg (cal.mono hq fun _ _ ⟨v, e, q⟩ => by subst e; exact q)
theorem wpc_callV {P : Cl} {mi : Nat} {me me' : Me} {c pc x m' : Nat} {ls : Lv} {st r as : List Value} {s : St} {Q : Option Value → St → Prop} {n : Nat} (hf : fetch me.cd pc = some (.invokevirtual x, n)) (hm : asc P.mx x = some m') (hme : asc P.ms m' = some me') (hst : st.drop me'.na = .ref 0 :: r) (has : (st.take me'.na).reverse = as)
    (hg : m' ≠ 0 ∧ me'.rf + 1 ≤ me.rf ∧ cats r + (me'.ml + 11) + me'.rl ≤ me.rl ∧ nd (st.take me'.na) = true)
    (hq : calV P m' c (.ref 0 :: as) s fun s' => wpc P mi me c (pc + 3) ls r s' Q) : wpc P mi me c pc ls st s Q :=
  wpc_call hf hm hme hst has hg (cal.mono hq fun _ _ ⟨e, q⟩ => by subst e; exact q)
/-- both roads of a value -/
theorem wp_val {p : Prop} [Decidable p] {α : Sort _} {F : α → Prop} {x y : α} (h : F (if p then x else y)) : (p → F x) ∧ (¬ p → F y) := ⟨fun q => by rw [if_pos q] at h; exact h, fun q => by rw [if_neg q] at h; exact h⟩
end Jvm.LM

namespace Jvm.LM
open Sem ClassFile Op Lib Jvm.Stand Jvm.Free Jvm.LawKit Jvm.RoadKit
/-! variables that are not read any more -/
def lle (a b : Lv) : Prop := a.length = b.length ∧ ∀ (k : Nat) (v : Value), a[k]? = some (some v) → b[k]? = some (some v)
def lle' : Lv → Lv → Prop
  | [], [] => True
  | none :: a, _ :: b => lle' a b
  | some v :: a, w :: b => w = some v ∧ lle' a b
  | _, _ => False
theorem lle_of {a b : Lv} (h : lle' a b) : lle a b := by
  induction a generalizing b with
  | nil => cases b with
    | nil => exact ⟨rfl, fun k v hk => hk⟩
    | cons y b => cases h
  | cons x a ih =>
    cases b with
    | nil => cases x <;> cases h
    | cons y b =>
      cases x with
      | none =>
        obtain ⟨h1, h2⟩ := ih (b := b) h
        refine ⟨by simp [h1], fun k v hk => ?_⟩
        cases k with
        | zero => simp at hk
        | succ k => simp at hk ⊢; exact h2 k v hk
      | some x =>
        obtain ⟨e, h⟩ := h
        obtain ⟨h1, h2⟩ := ih (b := b) h
        subst e
        refine ⟨by simp [h1], fun k v hk => ?_⟩
        cases k with
        | zero => exact hk
        | succ k => simp at hk ⊢; exact h2 k v hk
theorem clr_lle {a b : Lv} (h : lle a b) (i : Nat) : (clr a i).length = (clr b i).length ∧ ∀ k v, k ≠ i → (clr a i)[k]? = some (some v) → (clr b i)[k]? = some (some v) := by
  refine ⟨by rw [clr_len, clr_len]; exact h.1, fun k v hk hv => ?_⟩
  obtain ⟨q1, q2⟩ := clr_get hv
  have q3 := h.2 _ _ q1
  cases i with
  | zero => exact q3
  | succ j =>
    simp only [clr]
    split
    · rename_i x e
      rw [List.getElem?_set]
      split
      · rename_i e2; subst e2
        rw [q3] at e; cases e
        exact absurd rfl (q2 rfl)
      · exact q3
    · rename_i x e
      rw [List.getElem?_set]
      split
      · rename_i e2; subst e2
        rw [q3] at e; cases e
        exact absurd rfl (q2 rfl)
      · exact q3
    · exact q3
theorem stl_lle {a b a' : Lv} (h : lle a b) {i : Nat} {v : Value} (hs : stl a i v = some a') : ∃ b', stl b i v = some b' ∧ lle a' b' := by
  obtain ⟨c1, c2⟩ := clr_lle h i
  have hl := h.1
  have one : ∀ w : Value, ∀ k u, ((clr a i).set i (some w))[k]? = some (some u) → ((clr b i).set i (some w))[k]? = some (some u) := fun w k u hk => by
    rw [List.getElem?_set] at hk ⊢
    split
    · rename_i e; rw [if_pos e] at hk; rw [← c1]; exact hk
    · rename_i e; rw [if_neg e] at hk; exact c2 k u (fun q => e q.symm) hk
  unfold stl at hs ⊢
  split at hs
  · rename_i x
    split at hs
    · rename_i q
      cases hs
      refine ⟨((clr b i).set i (some (.long x))).set (i + 1) none, if_pos (by rw [← hl]; exact q), by simp [c1], fun k u hk => ?_⟩
      rw [List.getElem?_set] at hk ⊢
      split
      · rename_i e; rw [if_pos e] at hk; split at hk <;> simp at hk
      · rename_i e; rw [if_neg e] at hk; exact one _ k u hk
    · cases hs
  · split at hs
    · rename_i q
      cases hs
      exact ⟨(clr b i).set i (some v), if_pos (by rw [← hl]; exact q), by simp [c1], fun k u hk => one _ k u hk⟩
    · cases hs
theorem pstep_lle {i : Instr} {pc pc' : Nat} {ls l1 ls' : Lv} {st st' : List Value} (h : pstep i pc ls st = some (pc', l1, st')) (hl : lle ls ls') : ∃ l1', pstep i pc ls' st = some (pc', l1', st') ∧ lle l1 l1' := by
  unfold pstep at h ⊢
  split at h
  all_goals (try dsimp only)
  iterate 6
    · split at h
      · rename_i e; cases h; rw [hl.2 _ _ e]; exact ⟨_, rfl, hl⟩
      · cases h
  iterate 6
    · split at h
      · split at h
        · rename_i e; cases h
          obtain ⟨b', q1, q2⟩ := stl_lle hl e
          rw [q1]; exact ⟨_, rfl, q2⟩
        · cases h
      · cases h
  · split at h
    · rename_i e0
      split at h
      · rename_i e; cases h
        obtain ⟨b', q1, q2⟩ := stl_lle hl e
        rw [hl.2 _ _ e0]; dsimp only; rw [q1]; exact ⟨_, rfl, q2⟩
      · cases h
    · cases h
  · split at h
    · cases h; exact ⟨_, rfl, hl⟩
    · cases h
theorem cstep_lle {P : Cl} {mi : Nat} {me : Me} {rt : Option Value → St → Rs} {cl : Nat → Nat → List Value → St → Rs} {k : Nat → Nat → Lv → List Value → St → Rs} {i : Instr} {c pc : Nat} {ls ls' : Lv} {st : List Value} {s : St} {r : Option Value × St} (hl : lle ls ls')
    (hk : ∀ c pc ls ls' st s, lle ls ls' → k c pc ls st s = some r → k c pc ls' st s = some r) (h : cstep P mi me rt cl k i c pc ls st s = some r) : cstep P mi me rt cl k i c pc ls' st s = some r := by
  unfold cstep at h ⊢
  split at h
  all_goals (try dsimp only)
  · split at h
    · split at h
      · exact hk _ _ _ _ _ _ hl h
      · cases h
    · cases h
  · split at h
    · split at h
      · exact hk _ _ _ _ _ _ hl h
      · cases h
    · cases h
  iterate 6
    · split at h
      · exact hk _ _ _ _ _ _ hl h
      · cases h
  · split at h
    · rename_i q; rw [if_pos q]; exact hk _ _ _ _ _ _ hl h
    · cases h
  iterate 2
    · split at h
      · exact hk _ _ _ _ _ _ hl h
      · cases h
  · split at h
    · split at h
      · rename_i q; rw [if_pos q]; exact hk _ _ _ _ _ _ hl h
      · cases h
    · cases h
  · split at h
    · cases h
    · split at h
      · cases h
      · split at h
        · split at h
          · rename_i q
            rw [if_pos q]
            split at h
            · exact hk _ _ _ _ _ _ hl h
            · exact hk _ _ _ _ _ _ hl h
            · cases h
          · cases h
        · cases h
  · split at h
    · rename_i q; rw [if_pos q]; exact h
    · rename_i q; rw [if_neg q]
      split at h
      · rename_i e
        obtain ⟨l1', q1, q2⟩ := pstep_lle e hl
        rw [q1]; exact hk _ _ _ _ _ _ q2 h
      · cases h
theorem cexec_lle {P : Cl} : ∀ f mi me c pc ls ls' st s r, lle ls ls' → cexec P f mi me c pc ls st s = some r → cexec P f mi me c pc ls' st s = some r := by
  intro f
  induction f with
  | zero => intro mi me c pc ls ls' st s r _ h; cases h
  | succ f ih =>
    intro mi me c pc ls ls' st s r hl h
    rw [cexec] at h ⊢
    split at h
    · cases h
    · exact cstep_lle hl (fun c pc ls ls' st s hl h => ih _ _ _ _ _ _ _ _ _ hl h) h
theorem wpc_lle {P : Cl} {mi : Nat} {me : Me} {c pc : Nat} {ls ls' : Lv} {st : List Value} {s : St} {Q : Option Value → St → Prop} (hl : lle' ls ls') (h : wpc P mi me c pc ls st s Q) : wpc P mi me c pc ls' st s Q := by
  obtain ⟨f, v, s', h1, h2⟩ := h; exact ⟨f, v, s', cexec_lle _ _ _ _ _ _ _ _ _ _ (lle_of hl) h1, h2⟩
end Jvm.LM

namespace Jvm.LM
open Sem ClassFile Op Lib Jvm.Stand Jvm.Free Jvm.LawKit Jvm.RoadKit
theorem lstep_mono {α : Type} {P : Cl} {Q : Lw} {sc : Sc} {mi : Nat} {me : Me} {rt : Option Value → Wd → Option α} {cc cc' : Nat → Nat → List Value → St → Rs} {cl cl' : Nat → List Value → Wd → Rw} {k k' : Nat → Lv → List Value → Wd → Option α} {i : Instr} {pc : Nat} {ls : Lv} {st : List Value} {w : Wd} {r : α}
    (hcc : ∀ m c as s r, cc m c as s = some r → cc' m c as s = some r) (hcl : ∀ m as s r, cl m as s = some r → cl' m as s = some r) (hk : ∀ pc ls st s r, k pc ls st s = some r → k' pc ls st s = some r) (h : lstep P Q sc mi me rt cc cl k i pc ls st w = some r) : lstep P Q sc mi me rt cc' cl' k' i pc ls st w = some r := by
  unfold lstep at h ⊢
  split at h
  all_goals (try dsimp only)
  · split at h
    · split at h
      · rename_i q; rw [if_pos q]; exact hk _ _ _ _ _ h
      · cases h
    · cases h
  · split at h
    · exact hk _ _ _ _ _ h
    · cases h
  · split at h
    · exact hk _ _ _ _ _ h
    · cases h
  · split at h
    · exact hk _ _ _ _ _ h
    · cases h
  · split at h
    · rename_i q; rw [if_pos q]; exact hk _ _ _ _ _ h
    · cases h
  · split at h
    · cases h
    · split at h
      · split at h
        · rename_i q
          rw [if_pos q]
          split at h
          · rename_i s1 hc; rw [hcc _ _ _ _ _ hc]; exact hk _ _ _ _ _ h
          · cases h
        · cases h
      · cases h
  · split at h
    · cases h
    · split at h
      · cases h
      · split at h
        · split at h
          · rename_i q
            rw [if_pos q]
            split at h
            · rename_i s1 hc; rw [hcc _ _ _ _ _ hc]; exact hk _ _ _ _ _ h
            · rename_i v1 s1 hc; rw [hcc _ _ _ _ _ hc]; exact hk _ _ _ _ _ h
            · cases h
          · cases h
        · cases h
  · split at h
    · cases h
    · split at h
      · cases h
      · split at h
        · rename_i q
          rw [if_pos q]
          split at h
          · rename_i s1 hc; rw [hcl _ _ _ _ hc]; exact hk _ _ _ _ _ h
          · rename_i v1 s1 hc; rw [hcl _ _ _ _ hc]; exact hk _ _ _ _ _ h
          · cases h
        · cases h
  · split at h
    · rename_i q; rw [if_pos q]; exact h
    · rename_i q; rw [if_neg q]
      split at h
      · exact hk _ _ _ _ _ h
      · cases h
theorem lexec_succ {P : Cl} {Q : Lw} {sc : Sc} : ∀ f mi me pc ls st w r, lexec P Q sc f mi me pc ls st w = some r → lexec P Q sc (f + 1) mi me pc ls st w = some r := by
  intro f
  induction f with
  | zero => intro mi me pc ls st s r h; cases h
  | succ f ih =>
    intro mi me pc ls st s r h
    rw [lexec] at h ⊢
    split at h
    · cases h
    · refine lstep_mono (fun m c as s r h => ccall_le (Nat.le_succ _) h) (fun m as s r h => ?_) (fun pc ls st s r h => ih _ _ _ _ _ _ _ h) h
      split at h
      · split at h
        · rename_i q; rw [if_pos q]; exact ih _ _ _ _ _ _ _ h
        · cases h
      · cases h
theorem lexec_le {P : Cl} {Q : Lw} {sc : Sc} {f g mi : Nat} {me : Me} {pc : Nat} {ls : Lv} {st : List Value} {w : Wd} {r : Option Value × Wd} (hfg : f ≤ g) (h : lexec P Q sc f mi me pc ls st w = some r) : lexec P Q sc g mi me pc ls st w = some r := by
  obtain ⟨d, rfl⟩ := Nat.le.dest hfg
  induction d with
  | zero => exact h
  | succ d ih => exact lexec_succ _ _ _ _ _ _ _ _ (ih (Nat.le_add_right _ _))
theorem lcall_le {P : Cl} {Q : Lw} {sc : Sc} {f g m' : Nat} {as : List Value} {w : Wd} {r : Option Value × Wd} (hfg : f ≤ g) (h : lcall P Q sc f m' as w = some r) : lcall P Q sc g m' as w = some r := by
  unfold lcall at h ⊢
  split at h
  · split at h
    · rename_i q; rw [if_pos q]; exact lexec_le hfg h
    · cases h
  · cases h
def wpl (P : Cl) (Q : Lw) (sc : Sc) (mi : Nat) (me : Me) (pc : Nat) (ls : Lv) (st : List Value) (w : Wd) (R : Option Value → Wd → Prop) : Prop := ∃ f v w', lexec P Q sc f mi me pc ls st w = some (v, w') ∧ R v w'
def lal (P : Cl) (Q : Lw) (sc : Sc) (m' : Nat) (as : List Value) (w : Wd) (R : Option Value → Wd → Prop) : Prop := ∃ f v w', lcall P Q sc f m' as w = some (v, w') ∧ R v w'
def lalI (P : Cl) (Q : Lw) (sc : Sc) (m' : Nat) (as : List Value) (w : Wd) (R : Int32 → Wd → Prop) : Prop := lal P Q sc m' as w fun r w' => ∃ v, r = some (.int v) ∧ R v w'
def lalL (P : Cl) (Q : Lw) (sc : Sc) (m' : Nat) (as : List Value) (w : Wd) (R : Int64 → Wd → Prop) : Prop := lal P Q sc m' as w fun r w' => ∃ v, r = some (.long v) ∧ R v w'
def lalV (P : Cl) (Q : Lw) (sc : Sc) (m' : Nat) (as : List Value) (w : Wd) (R : Wd → Prop) : Prop := lal P Q sc m' as w fun r w' => r = none ∧ R w'
theorem lal.mono {P : Cl} {Q : Lw} {sc : Sc} {m' : Nat} {as : List Value} {w : Wd} {R R' : Option Value → Wd → Prop} (h : lal P Q sc m' as w R) (hq : ∀ v s', R v s' → R' v s') : lal P Q sc m' as w R' := by
  obtain ⟨f, v, s', h1, h2⟩ := h; exact ⟨f, v, s', h1, hq _ _ h2⟩
theorem lalI.mono {P : Cl} {Q : Lw} {sc : Sc} {m' : Nat} {as : List Value} {w : Wd} {R R' : Int32 → Wd → Prop} (h : lalI P Q sc m' as w R) (hq : ∀ v s', R v s' → R' v s') : lalI P Q sc m' as w R' := lal.mono h fun _ _ ⟨v, e, q⟩ => ⟨v, e, hq _ _ q⟩
theorem lalL.mono {P : Cl} {Q : Lw} {sc : Sc} {m' : Nat} {as : List Value} {w : Wd} {R R' : Int64 → Wd → Prop} (h : lalL P Q sc m' as w R) (hq : ∀ v s', R v s' → R' v s') : lalL P Q sc m' as w R' := lal.mono h fun _ _ ⟨v, e, q⟩ => ⟨v, e, hq _ _ q⟩
theorem lalV.mono {P : Cl} {Q : Lw} {sc : Sc} {m' : Nat} {as : List Value} {w : Wd} {R R' : Wd → Prop} (h : lalV P Q sc m' as w R) (hq : ∀ s', R s' → R' s') : lalV P Q sc m' as w R' := lal.mono h fun _ _ ⟨e, q⟩ => ⟨e, hq _ q⟩
theorem wpl.mono {P : Cl} {Q : Lw} {sc : Sc} {mi : Nat} {me : Me} {pc : Nat} {ls : Lv} {st : List Value} {w : Wd} {R R' : Option Value → Wd → Prop} (h : wpl P Q sc mi me pc ls st w R) (hq : ∀ v s', R v s' → R' v s') : wpl P Q sc mi me pc ls st w R' := by
  obtain ⟨f, v, s', h1, h2⟩ := h; exact ⟨f, v, s', h1, hq _ _ h2⟩
theorem wpl_one {P : Cl} {Q : Lw} {sc : Sc} {mi : Nat} {me : Me} {pc pc' : Nat} {ls ls' : Lv} {st st' : List Value} {w w' : Wd} {R : Option Value → Wd → Prop} {i : Instr} {n : Nat} (hf : fetch me.cd pc = some (i, n))
    (h : ∀ (rt : Option Value → Wd → Rw) cc cl (k : Nat → Lv → List Value → Wd → Rw), lstep P Q sc mi me rt cc cl k i pc ls st w = k pc' ls' st' w') (hq : wpl P Q sc mi me pc' ls' st' w' R) : wpl P Q sc mi me pc ls st w R := by
  obtain ⟨f, v, s2, h1, h2⟩ := hq
  refine ⟨f + 1, v, s2, ?_, h2⟩
  rw [lexec, hf]; dsimp only; rw [h]; exact h1
/-- plain steps: nothing of the heap, no call -/
def isPl : Instr → Bool
  | .iaload => false | .arraylength => false | .ldc _ => false | .ldc2_w _ => false | .new _ => false | .invokespecial _ => false | .invokevirtual _ => false | .invokestatic _ => false
  | .ireturn => false | .lreturn => false | .return_ => false
  | _ => true
theorem lstep_pl {α : Type} {P : Cl} {Q : Lw} {sc : Sc} {mi : Nat} {me : Me} {rt : Option Value → Wd → Option α} {cc : Nat → Nat → List Value → St → Rs} {cl : Nat → List Value → Wd → Rw} {k : Nat → Lv → List Value → Wd → Option α} {i : Instr} {pc : Nat} {ls : Lv} {st : List Value} {w : Wd} (hi : isPl i = true) :
    lstep P Q sc mi me rt cc cl k i pc ls st w = match pstep i pc ls st with | some (pc', ls', st') => k pc' ls' st' w | none => none := by
  cases i <;> first | (cases hi; done) | rfl
def psl (kx : List (Nat × Value)) (cd : Cd) : Nat → Nat → Lv → List Value → Option (Nat × Lv × List Value)
  | 0, pc, ls, st => some (pc, ls, st)
  | n + 1, pc, ls, st => match fetch cd pc with
    | none => none
    | some (i, _) => match i with
      | .ldc x => (match asc kx x with | some (.int z) => psl kx cd n (pc + 2) ls (.int z :: st) | _ => none)
      | .ldc2_w x => (match asc kx x with | some (.long z) => psl kx cd n (pc + 3) ls (.long z :: st) | _ => none)
      | i => if isPl i = true then (match pstep i pc ls st with | some (pc', ls', st') => psl kx cd n pc' ls' st' | none => none) else none
theorem wpl_sl {P : Cl} {Q : Lw} {sc : Sc} {mi : Nat} {me : Me} {w : Wd} {R : Option Value → Wd → Prop} : ∀ {n pc pc' : Nat} {ls ls' : Lv} {st st' : List Value}, psl Q.kx me.cd n pc ls st = some (pc', ls', st') → wpl P Q sc mi me pc' ls' st' w R → wpl P Q sc mi me pc ls st w R := by
  intro n
  induction n with
  | zero => intro pc pc' ls ls' st st' h hq; cases h; exact hq
  | succ n ih =>
    intro pc pc' ls ls' st st' h hq
    simp only [psl] at h
    split at h
    · cases h
    · rename_i i m hf
      split at h
      · split at h
        · rename_i z e
          exact wpl_one hf (fun rt cc cl k => by simp only [lstep, e]) (ih h hq)
        · cases h
      · split at h
        · rename_i z e
          exact wpl_one hf (fun rt cc cl k => by simp only [lstep, e]) (ih h hq)
        · cases h
      · split at h
        · rename_i hi
          split at h
          · rename_i pc1 ls1 st1 e
            exact wpl_one hf (fun rt cc cl k => by rw [lstep_pl hi, e]) (ih h hq)
          · cases h
        · cases h
theorem wpl_ret {P : Cl} {Q : Lw} {sc : Sc} {mi : Nat} {me : Me} {pc : Nat} {ls : Lv} {st : List Value} {w : Wd} {R : Option Value → Wd → Prop} {i : Instr} {n : Nat} {v : Option Value} (hf : fetch me.cd pc = some (i, n)) (hr : isRet i = true) (h : cret me st i = some v) (hq : R v w) : wpl P Q sc mi me pc ls st w R := by
  refine ⟨1, v, w, ?_, hq⟩
  rw [lexec, hf]; dsimp only
  cases i <;> first | (cases hr; done) | (simp only [lstep]; rw [if_pos hr, h])
theorem wpl_if {P : Cl} {Q : Lw} {sc : Sc} {mi : Nat} {me : Me} {pc a b : Nat} {ls : Lv} {r : List Value} {w : Wd} {R : Option Value → Wd → Prop} {cd : ClassFile.Cond} {o : Int} {n : Nat} {x : Int32} (hf : fetch me.cd pc = some (.ifCond cd o, n)) (ho : 0 ≤ (pc : Int) + o) (ha : jmp pc o = a) (hb : pc + 3 = b)
    (hq : wpl P Q sc mi me (br cd x 0 a b) ls r w R) : wpl P Q sc mi me pc ls (.int x :: r) w R := by
  subst ha hb
  refine wpl_one hf (fun rt cc cl k => ?_) hq
  rw [lstep_pl rfl]
  simp only [pstep, qstep]; rw [if_pos ho]
theorem wpl_icmp {P : Cl} {Q : Lw} {sc : Sc} {mi : Nat} {me : Me} {pc a b : Nat} {ls : Lv} {r : List Value} {w : Wd} {R : Option Value → Wd → Prop} {cd : ClassFile.Cond} {o : Int} {n : Nat} {x y : Int32} (hf : fetch me.cd pc = some (.if_icmp cd o, n)) (ho : 0 ≤ (pc : Int) + o) (ha : jmp pc o = a) (hb : pc + 3 = b)
    (hq : wpl P Q sc mi me (br cd x y a b) ls r w R) : wpl P Q sc mi me pc ls (.int y :: .int x :: r) w R := by
  subst ha hb
  refine wpl_one hf (fun rt cc cl k => ?_) hq
  rw [lstep_pl rfl]
  simp only [pstep, qstep]; rw [if_pos ho]
theorem wpl_br {P : Cl} {Q : Lw} {sc : Sc} {mi : Nat} {me : Me} {a b : Nat} {ls : Lv} {st : List Value} {w : Wd} {R : Option Value → Wd → Prop} {p : Prop} [Decidable p] (h : (p → wpl P Q sc mi me a ls st w R) ∧ (¬ p → wpl P Q sc mi me b ls st w R)) : wpl P Q sc mi me (if p then a else b) ls st w R := by
  by_cases hp : p
  · rw [if_pos hp]; exact h.1 hp
  · rw [if_neg hp]; exact h.2 hp
theorem wpl_lda {P : Cl} {Q : Lw} {N : Nat} {g : Nat → Int32} {mi : Nat} {me : Me} {pc : Nat} {ls : Lv} {r : List Value} {w : Wd} {R : Option Value → Wd → Prop} {n : Nat} {j : Int32} (hf : fetch me.cd pc = some (.iaload, n)) (hj : inb N j) (hq : wpl P Q (some (N, g)) mi me (pc + 1) ls (.int (g (ix j)) :: r) w R) : wpl P Q (some (N, g)) mi me pc ls (.int j :: .ref 0 :: r) w R := by
  refine wpl_one hf (fun rt cc cl k => ?_) hq
  simp only [lstep]; rw [if_pos hj]
theorem wpl_len {P : Cl} {Q : Lw} {N : Nat} {g : Nat → Int32} {mi : Nat} {me : Me} {pc : Nat} {ls : Lv} {r : List Value} {w : Wd} {R : Option Value → Wd → Prop} {n : Nat} (hf : fetch me.cd pc = some (.arraylength, n)) (hq : wpl P Q (some (N, g)) mi me (pc + 1) ls (.int (Int32.ofNat N) :: r) w R) : wpl P Q (some (N, g)) mi me pc ls (.ref 0 :: r) w R := by
  refine wpl_one hf (fun rt cc cl k => ?_) hq
  simp only [lstep]
theorem wpl_new {P : Cl} {Q : Lw} {sc : Sc} {me : Me} {pc cnt : Nat} {ls : Lv} {st : List Value} {os : Nat → St} {R : Option Value → Wd → Prop} {n x : Nat} (hf : fetch me.cd pc = some (.new x, n)) (hx : x = Q.cx) (h1 : (cnt + 1) * (P.al.length + 1) ≤ Q.rc) (h2 : (cnt + 1) * (Q.nf + zs P.al P.al.length) ≤ Q.rs)
    (hq : wpl P Q sc 0 me (pc + 3) ls (.ref (cnt + 1) :: st) (uo os cnt s0, cnt, true) R) : wpl P Q sc 0 me pc ls st (os, cnt, false) R := by
  refine wpl_one hf (fun rt cc cl k => ?_) hq
  simp only [lstep]; rw [if_pos ⟨trivial, hx, trivial, h1, h2⟩]
theorem wpl_ctor {P : Cl} {Q : Lw} {sc : Sc} {me me' : Me} {pc cnt : Nat} {ls : Lv} {st r as : List Value} {os : Nat → St} {R : Option Value → Wd → Prop} {n x : Nat} (hf : fetch me.cd pc = some (.invokespecial x, n)) (hx : x = Q.ci) (hme : asc P.ms 0 = some me') (hst : st.drop me'.na = .ref (cnt + 1) :: r) (has : (st.take me'.na).reverse = as)
    (hg : me'.rf + 1 ≤ me.rf ∧ cats r + (me'.ml + 11) + me'.rl ≤ me.rl ∧ nr (st.take me'.na) = true ∧ (cnt + 1) * (P.al.length + 1) ≤ Q.rc ∧ (cnt + 1) * (Q.nf + zs P.al P.al.length) ≤ Q.rs)
    (hq : calV P 0 0 (.ref 0 :: as) (os cnt) fun s' => wpl P Q sc 0 me (pc + 3) ls r (uo os cnt s', cnt + 1, false) R) : wpl P Q sc 0 me pc ls st (os, cnt, true) R := by
  subst has
  obtain ⟨f1, v, s1, h1, rfl, f2, v2, s2, h2, h3⟩ := hq
  refine ⟨max f1 f2 + 1, v2, s2, ?_, h3⟩
  have h1' := ccall_le (Nat.le_max_left f1 f2) h1
  have h2' := lexec_le (Nat.le_max_right f1 f2) h2
  rw [lexec, hf]; dsimp only
  simp only [lstep, hme, hst]
  rw [if_pos ⟨hx, trivial, trivial, trivial, hg⟩, h1']
  exact h2'
theorem wpl_call {P : Cl} {Q : Lw} {sc : Sc} {mi : Nat} {me me' : Me} {pc x m' o : Nat} {ls : Lv} {st r as : List Value} {w : Wd} {R : Option Value → Wd → Prop} {n : Nat} (hf : fetch me.cd pc = some (.invokevirtual x, n)) (hm : asc Q.vx x = some m') (hme : asc P.ms m' = some me') (hst : st.drop me'.na = .ref (o + 1) :: r) (has : (st.take me'.na).reverse = as)
    (hg : m' ≠ 0 ∧ o < w.2.1 ∧ me'.rf + 1 ≤ me.rf ∧ cats r + (me'.ml + 11) + me'.rl ≤ me.rl ∧ nr (st.take me'.na) = true)
    (hq : cal P m' P.al.length (.ref 0 :: as) (w.1 o) fun v s' => wpl P Q sc mi me (pc + 3) ls (v.toList ++ r) (uo w.1 o s', w.2.1, w.2.2) R) : wpl P Q sc mi me pc ls st w R := by
  subst has
  obtain ⟨f1, v, s1, h1, f2, v2, s2, h2, h3⟩ := hq
  refine ⟨max f1 f2 + 1, v2, s2, ?_, h3⟩
  have h1' := ccall_le (Nat.le_max_left f1 f2) h1
  have h2' := lexec_le (Nat.le_max_right f1 f2) h2
  rw [lexec, hf]; dsimp only
  simp only [lstep, hm, hme, hst]
  rw [if_pos hg, h1']
  cases v <;> exact h2'
theorem wpl_stat {P : Cl} {Q : Lw} {sc : Sc} {mi : Nat} {me me' : Me} {pc x m' : Nat} {ls : Lv} {st r as : List Value} {w : Wd} {R : Option Value → Wd → Prop} {n : Nat} (hf : fetch me.cd pc = some (.invokestatic x, n)) (hm : asc Q.sx x = some m') (hme : asc Q.ms m' = some me') (hst : st.drop me'.na = r) (has : (st.take me'.na).reverse = as)
    (hg : m' ≠ 0 ∧ me'.na ≤ st.length ∧ me'.rf + 1 ≤ me.rf ∧ cats r + (me'.ml + 11) + me'.rl ≤ me.rl ∧ nd (st.take me'.na) = true)
    (hq : lal P Q sc m' as w fun v w' => wpl P Q sc mi me (pc + 3) ls (v.toList ++ r) w' R) : wpl P Q sc mi me pc ls st w R := by
  subst has hst
  obtain ⟨f1, v, s1, h1, f2, v2, s2, h2, h3⟩ := hq
  refine ⟨max f1 f2 + 1, v2, s2, ?_, h3⟩
  have h1' := lcall_le (Nat.le_max_left f1 f2) h1
  have h2' := lexec_le (Nat.le_max_right f1 f2) h2
  rw [lexec, hf]; dsimp only
  simp only [lstep, hm, hme]
  rw [if_pos hg]
  simp only [lcall, hme] at h1'
  rw [h1']
  cases v <;> exact h2'
theorem lal_of {P : Cl} {Q : Lw} {sc : Sc} {m' : Nat} {as : List Value} {w : Wd} {R : Option Value → Wd → Prop} {me : Me} {ls : Lv} (hme : asc Q.ms m' = some me) (hl : (layA as).length ≤ me.ml) (hls : lay as me.ml = ls) (h : wpl P Q sc m' me 0 ls [] w R) : lal P Q sc m' as w R := by
  subst hls
  obtain ⟨f, v, s', h1, h2⟩ := h
  refine ⟨f, v, s', ?_, h2⟩
  simp only [lcall, hme]; rw [if_pos hl]; exact h1
theorem lstep_lle {P : Cl} {Q : Lw} {sc : Sc} {mi : Nat} {me : Me} {rt : Option Value → Wd → Rw} {cc : Nat → Nat → List Value → St → Rs} {cl : Nat → List Value → Wd → Rw} {k : Nat → Lv → List Value → Wd → Rw} {i : Instr} {pc : Nat} {ls ls' : Lv} {st : List Value} {w : Wd} {r : Option Value × Wd} (hl : lle ls ls')
    (hk : ∀ pc ls ls' st s, lle ls ls' → k pc ls st s = some r → k pc ls' st s = some r) (h : lstep P Q sc mi me rt cc cl k i pc ls st w = some r) : lstep P Q sc mi me rt cc cl k i pc ls' st w = some r := by
  unfold lstep at h ⊢
  split at h
  all_goals (try dsimp only)
  · split at h
    · split at h
      · rename_i q; rw [if_pos q]; exact hk _ _ _ _ _ hl h
      · cases h
    · cases h
  iterate 3
    · split at h
      · exact hk _ _ _ _ _ hl h
      · cases h
  · split at h
    · rename_i q; rw [if_pos q]; exact hk _ _ _ _ _ hl h
    · cases h
  · split at h
    · cases h
    · split at h
      · split at h
        · rename_i q
          rw [if_pos q]
          split at h
          · exact hk _ _ _ _ _ hl h
          · cases h
        · cases h
      · cases h
  · split at h
    · cases h
    · split at h
      · cases h
      · split at h
        · split at h
          · rename_i q
            rw [if_pos q]
            split at h
            · exact hk _ _ _ _ _ hl h
            · exact hk _ _ _ _ _ hl h
            · cases h
          · cases h
        · cases h
  · split at h
    · cases h
    · split at h
      · cases h
      · split at h
        · rename_i q
          rw [if_pos q]
          split at h
          · exact hk _ _ _ _ _ hl h
          · exact hk _ _ _ _ _ hl h
          · cases h
        · cases h
  · split at h
    · rename_i q; rw [if_pos q]; exact h
    · rename_i q; rw [if_neg q]
      split at h
      · rename_i e
        obtain ⟨l1', q1, q2⟩ := pstep_lle e hl
        rw [q1]; exact hk _ _ _ _ _ q2 h
      · cases h
theorem lexec_lle {P : Cl} {Q : Lw} {sc : Sc} : ∀ f mi me pc ls ls' st w r, lle ls ls' → lexec P Q sc f mi me pc ls st w = some r → lexec P Q sc f mi me pc ls' st w = some r := by
  intro f
  induction f with
  | zero => intro mi me pc ls ls' st w r _ h; cases h
  | succ f ih =>
    intro mi me pc ls ls' st w r hl h
    rw [lexec] at h ⊢
    split at h
    · cases h
    · exact lstep_lle hl (fun pc ls ls' st s hl h => ih _ _ _ _ _ _ _ _ hl h) h
theorem wpl_lle {P : Cl} {Q : Lw} {sc : Sc} {mi : Nat} {me : Me} {pc : Nat} {ls ls' : Lv} {st : List Value} {w : Wd} {R : Option Value → Wd → Prop} (hl : lle' ls ls') (h : wpl P Q sc mi me pc ls st w R) : wpl P Q sc mi me pc ls' st w R := by
  obtain ⟨f, v, s', h1, h2⟩ := h; exact ⟨f, v, s', lexec_lle _ _ _ _ _ _ _ _ _ (lle_of hl) h1, h2⟩
/-! worlds of no, one and two objects -/
def W0 : Wd := (fun _ => s0, 0, false)
def W0p : Wd := (uo (fun _ => s0) 0 s0, 0, true)
def W1 (s : St) : Wd := (uo (fun _ => s0) 0 s, 1, false)
def W1p (s : St) : Wd := (uo (uo (fun _ => s0) 0 s) 1 s0, 1, true)
def W2 (s t : St) : Wd := (uo (uo (fun _ => s0) 0 s) 1 t, 2, false)
theorem uo_uo (f : Nat → St) (o : Nat) (s t : St) : uo (uo f o s) o t = uo f o t := by
  funext i; simp only [uo]; split <;> rfl
theorem uo_swap (f : Nat → St) {o o' : Nat} (h : o ≠ o') (s t : St) : uo (uo f o s) o' t = uo (uo f o' t) o s := by
  funext i; simp only [uo]
  by_cases a : i = o
  · subst a; simp [h]
  · by_cases b : i = o'
    · subst b; simp [Ne.symm h]
    · simp [a, b]
section Worlds
variable {P : Cl} {Q : Lw} {sc : Sc} {mi : Nat} {me me' : Me} {pc x m' : Nat} {ls : Lv} {st r as : List Value} {R : Option Value → Wd → Prop} {n : Nat} {s t : St}
theorem wpl_new0 (hf : fetch me.cd pc = some (.new x, n)) (hx : x = Q.cx) (h1 : 1 * (P.al.length + 1) ≤ Q.rc) (h2 : 1 * (Q.nf + zs P.al P.al.length) ≤ Q.rs) (hq : wpl P Q sc 0 me (pc + 3) ls (.ref 1 :: st) W0p R) : wpl P Q sc 0 me pc ls st W0 R := wpl_new (cnt := 0) hf hx h1 h2 hq
theorem wpl_new1 (hf : fetch me.cd pc = some (.new x, n)) (hx : x = Q.cx) (h1 : 2 * (P.al.length + 1) ≤ Q.rc) (h2 : 2 * (Q.nf + zs P.al P.al.length) ≤ Q.rs) (hq : wpl P Q sc 0 me (pc + 3) ls (.ref 2 :: st) (W1p s) R) : wpl P Q sc 0 me pc ls st (W1 s) R := wpl_new (cnt := 1) hf hx h1 h2 hq
theorem wpl_ctor0 (hf : fetch me.cd pc = some (.invokespecial x, n)) (hx : x = Q.ci) (hme : asc P.ms 0 = some me') (hst : st.drop me'.na = .ref 1 :: r) (has : (st.take me'.na).reverse = as)
    (hg : me'.rf + 1 ≤ me.rf ∧ cats r + (me'.ml + 11) + me'.rl ≤ me.rl ∧ nr (st.take me'.na) = true ∧ 1 * (P.al.length + 1) ≤ Q.rc ∧ 1 * (Q.nf + zs P.al P.al.length) ≤ Q.rs)
    (hq : calV P 0 0 (.ref 0 :: as) s0 fun s' => wpl P Q sc 0 me (pc + 3) ls r (W1 s') R) : wpl P Q sc 0 me pc ls st W0p R := by
  refine wpl_ctor (cnt := 0) hf hx hme hst has hg ?_
  refine calV.mono (show calV P 0 0 (.ref 0 :: as) (uo (fun _ => s0) 0 s0 0) _ from hq) fun s' h => ?_
  rw [uo_uo]; exact h
theorem wpl_ctor1 (hf : fetch me.cd pc = some (.invokespecial x, n)) (hx : x = Q.ci) (hme : asc P.ms 0 = some me') (hst : st.drop me'.na = .ref 2 :: r) (has : (st.take me'.na).reverse = as)
    (hg : me'.rf + 1 ≤ me.rf ∧ cats r + (me'.ml + 11) + me'.rl ≤ me.rl ∧ nr (st.take me'.na) = true ∧ 2 * (P.al.length + 1) ≤ Q.rc ∧ 2 * (Q.nf + zs P.al P.al.length) ≤ Q.rs)
    (hq : calV P 0 0 (.ref 0 :: as) s0 fun s' => wpl P Q sc 0 me (pc + 3) ls r (W2 s s') R) : wpl P Q sc 0 me pc ls st (W1p s) R := by
  refine wpl_ctor (cnt := 1) hf hx hme hst has hg ?_
  refine calV.mono (show calV P 0 0 (.ref 0 :: as) (uo (uo (fun _ => s0) 0 s) 1 s0 1) _ from hq) fun s' h => ?_
  rw [uo_uo]; exact h
theorem wpl_v1 (hf : fetch me.cd pc = some (.invokevirtual x, n)) (hm : asc Q.vx x = some m') (hme : asc P.ms m' = some me') (hst : st.drop me'.na = .ref 1 :: r) (has : (st.take me'.na).reverse = as)
    (hg : m' ≠ 0 ∧ me'.rf + 1 ≤ me.rf ∧ cats r + (me'.ml + 11) + me'.rl ≤ me.rl ∧ nr (st.take me'.na) = true)
    (hq : cal P m' P.al.length (.ref 0 :: as) s fun v s' => wpl P Q sc mi me (pc + 3) ls (v.toList ++ r) (W1 s') R) : wpl P Q sc mi me pc ls st (W1 s) R := by
  refine wpl_call (o := 0) hf hm hme hst has ⟨hg.1, by show 0 < 1; decide, hg.2⟩ ?_
  refine cal.mono (show cal P m' P.al.length (.ref 0 :: as) ((W1 s).1 0) _ from hq) fun v s' h => ?_
  show wpl P Q sc mi me (pc + 3) ls (v.toList ++ r) (uo (uo (fun _ => s0) 0 s) 0 s', 1, false) R
  rw [uo_uo]; exact h
theorem wpl_v2a (hf : fetch me.cd pc = some (.invokevirtual x, n)) (hm : asc Q.vx x = some m') (hme : asc P.ms m' = some me') (hst : st.drop me'.na = .ref 1 :: r) (has : (st.take me'.na).reverse = as)
    (hg : m' ≠ 0 ∧ me'.rf + 1 ≤ me.rf ∧ cats r + (me'.ml + 11) + me'.rl ≤ me.rl ∧ nr (st.take me'.na) = true)
    (hq : cal P m' P.al.length (.ref 0 :: as) s fun v s' => wpl P Q sc mi me (pc + 3) ls (v.toList ++ r) (W2 s' t) R) : wpl P Q sc mi me pc ls st (W2 s t) R := by
  refine wpl_call (o := 0) hf hm hme hst has ⟨hg.1, by show 0 < 2; decide, hg.2⟩ ?_
  refine cal.mono (show cal P m' P.al.length (.ref 0 :: as) ((W2 s t).1 0) _ from hq) fun v s' h => ?_
  show wpl P Q sc mi me (pc + 3) ls (v.toList ++ r) (uo (uo (uo (fun _ => s0) 0 s) 1 t) 0 s', 2, false) R
  rw [uo_swap _ (by decide), uo_uo]; exact h
theorem wpl_v2b (hf : fetch me.cd pc = some (.invokevirtual x, n)) (hm : asc Q.vx x = some m') (hme : asc P.ms m' = some me') (hst : st.drop me'.na = .ref 2 :: r) (has : (st.take me'.na).reverse = as)
    (hg : m' ≠ 0 ∧ me'.rf + 1 ≤ me.rf ∧ cats r + (me'.ml + 11) + me'.rl ≤ me.rl ∧ nr (st.take me'.na) = true)
    (hq : cal P m' P.al.length (.ref 0 :: as) t fun v s' => wpl P Q sc mi me (pc + 3) ls (v.toList ++ r) (W2 s s') R) : wpl P Q sc mi me pc ls st (W2 s t) R := by
  refine wpl_call (o := 1) hf hm hme hst has ⟨hg.1, by show 1 < 2; decide, hg.2⟩ ?_
  refine cal.mono (show cal P m' P.al.length (.ref 0 :: as) ((W2 s t).1 1) _ from hq) fun v s' h => ?_
  show wpl P Q sc mi me (pc + 3) ls (v.toList ++ r) (uo (uo (uo (fun _ => s0) 0 s) 1 t) 1 s', 2, false) R
  rw [uo_uo]; exact h
end Worlds
theorem cal_I {P : Cl} {m' c : Nat} {as : List Value} {s : St} {F : Option Value → St → Prop} (h : calI P m' c as s fun v s' => F (some (.int v)) s') : cal P m' c as s F := cal.mono h fun _ _ ⟨v, e, q⟩ => by subst e; exact q
theorem cal_L {P : Cl} {m' c : Nat} {as : List Value} {s : St} {F : Option Value → St → Prop} (h : calL P m' c as s fun v s' => F (some (.long v)) s') : cal P m' c as s F := cal.mono h fun _ _ ⟨v, e, q⟩ => by subst e; exact q
theorem cal_V {P : Cl} {m' c : Nat} {as : List Value} {s : St} {F : Option Value → St → Prop} (h : calV P m' c as s fun s' => F none s') : cal P m' c as s F := cal.mono h fun _ _ ⟨e, q⟩ => by subst e; exact q
theorem lal_I {P : Cl} {Q : Lw} {sc : Sc} {m' : Nat} {as : List Value} {w : Wd} {F : Option Value → Wd → Prop} (h : lalI P Q sc m' as w fun v w' => F (some (.int v)) w') : lal P Q sc m' as w F := lal.mono h fun _ _ ⟨v, e, q⟩ => by subst e; exact q
theorem lal_L {P : Cl} {Q : Lw} {sc : Sc} {m' : Nat} {as : List Value} {w : Wd} {F : Option Value → Wd → Prop} (h : lalL P Q sc m' as w fun v w' => F (some (.long v)) w') : lal P Q sc m' as w F := lal.mono h fun _ _ ⟨v, e, q⟩ => by subst e; exact q
theorem lal_V {P : Cl} {Q : Lw} {sc : Sc} {m' : Nat} {as : List Value} {w : Wd} {F : Option Value → Wd → Prop} (h : lalV P Q sc m' as w fun w' => F none w') : lal P Q sc m' as w F := lal.mono h fun _ _ ⟨e, q⟩ => by subst e; exact q
end Jvm.LM

namespace Jvm.LM
open Sem ClassFile Op Lib Jvm.Stand Jvm.Free Jvm.LawKit Jvm.RoadKit
/-! rules for the steps that ask something -/
abbrev wpcI (P : Cl) (mi : Nat) (me : Me) (c pc : Nat) (ls : Lv) (st : List Value) (s : St) (Q : Int32 → St → Prop) : Prop := wpc P mi me c pc ls st s fun r s' => ∃ v, r = some (.int v) ∧ Q v s'
abbrev wpcL (P : Cl) (mi : Nat) (me : Me) (c pc : Nat) (ls : Lv) (st : List Value) (s : St) (Q : Int64 → St → Prop) : Prop := wpc P mi me c pc ls st s fun r s' => ∃ v, r = some (.long v) ∧ Q v s'
abbrev wpcV (P : Cl) (mi : Nat) (me : Me) (c pc : Nat) (ls : Lv) (st : List Value) (s : St) (Q : St → Prop) : Prop := wpc P mi me c pc ls st s fun r s' => r = none ∧ Q s'
abbrev wplI (P : Cl) (Q : Lw) (sc : Sc) (mi : Nat) (me : Me) (pc : Nat) (ls : Lv) (st : List Value) (w : Wd) (R : Int32 → Wd → Prop) : Prop := wpl P Q sc mi me pc ls st w fun r w' => ∃ v, r = some (.int v) ∧ R v w'
abbrev wplL (P : Cl) (Q : Lw) (sc : Sc) (mi : Nat) (me : Me) (pc : Nat) (ls : Lv) (st : List Value) (w : Wd) (R : Int64 → Wd → Prop) : Prop := wpl P Q sc mi me pc ls st w fun r w' => ∃ v, r = some (.long v) ∧ R v w'
abbrev wplV (P : Cl) (Q : Lw) (sc : Sc) (mi : Nat) (me : Me) (pc : Nat) (ls : Lv) (st : List Value) (w : Wd) (R : Wd → Prop) : Prop := wpl P Q sc mi me pc ls st w fun r w' => r = none ∧ R w'
section C
variable {P : Cl} {mi : Nat} {me : Me} {c pc a N n : Nat} {ls : Lv} {r : List Value} {s s' : St} {Q : Option Value → St → Prop} {j : Int32}
theorem wpc_ldaI {v : Int32} (hf : fetch me.cd pc = some (.iaload, n)) (ha : P.al[a]? = some (0, N)) (hac : a < c) (hj : inb N j) (hv : gI s (a + 1) (ix j) = v) (hq : wpc P mi me c (pc + 1) ls (.int v :: r) s Q) : wpc P mi me c pc ls (.int j :: .ref (a + 1) :: r) s Q := by
  subst hv; exact wpc_lda hf (Or.inl ⟨rfl, rfl⟩) ha hac hj hq
theorem wpc_ldaZ {v : Int32} (hf : fetch me.cd pc = some (.baload, n)) (ha : P.al[a]? = some (1, N)) (hac : a < c) (hj : inb N j) (hv : gI s (a + 1) (ix j) = v) (hq : wpc P mi me c (pc + 1) ls (.int v :: r) s Q) : wpc P mi me c pc ls (.int j :: .ref (a + 1) :: r) s Q := by
  subst hv; exact wpc_lda hf (Or.inr (Or.inl ⟨rfl, rfl⟩)) ha hac hj hq
theorem wpc_ldaJ {v : Int64} (hf : fetch me.cd pc = some (.laload, n)) (ha : P.al[a]? = some (2, N)) (hac : a < c) (hj : inb N j) (hv : gL s (a + 1) (ix j) = v) (hq : wpc P mi me c (pc + 1) ls (.long v :: r) s Q) : wpc P mi me c pc ls (.int j :: .ref (a + 1) :: r) s Q := by
  subst hv; exact wpc_lda hf (Or.inr (Or.inr ⟨rfl, rfl⟩)) ha hac hj hq
theorem wpc_staI {z : Int32} (hf : fetch me.cd pc = some (.iastore, n)) (ha : P.al[a]? = some (0, N)) (hac : a < c) (hj : inb N j) (hs : sI s (a + 1) (ix j) z = s') (hq : wpc P mi me c (pc + 1) ls r s' Q) : wpc P mi me c pc ls (.int z :: .int j :: .ref (a + 1) :: r) s Q :=
  wpc_sta hf (Or.inl ⟨rfl, rfl, z, rfl, hs.symm⟩) ha hac hj hq
theorem wpc_staZ {z : Int32} (hf : fetch me.cd pc = some (.bastore, n)) (ha : P.al[a]? = some (1, N)) (hac : a < c) (hj : inb N j) (hs : sI s (a + 1) (ix j) (z &&& 1) = s') (hq : wpc P mi me c (pc + 1) ls r s' Q) : wpc P mi me c pc ls (.int z :: .int j :: .ref (a + 1) :: r) s Q :=
  wpc_sta hf (Or.inr (Or.inl ⟨rfl, rfl, z, rfl, hs.symm⟩)) ha hac hj hq
theorem wpc_staJ {z : Int64} (hf : fetch me.cd pc = some (.lastore, n)) (ha : P.al[a]? = some (2, N)) (hac : a < c) (hj : inb N j) (hs : sL s (a + 1) (ix j) z = s') (hq : wpc P mi me c (pc + 1) ls r s' Q) : wpc P mi me c pc ls (.long z :: .int j :: .ref (a + 1) :: r) s Q :=
  wpc_sta hf (Or.inr (Or.inr ⟨rfl, rfl, z, rfl, hs.symm⟩)) ha hac hj hq
theorem wpc_pl {i : Instr} {pc' : Nat} {ls' : Lv} {st st' : List Value} (hf : fetch me.cd pc = some (i, n)) (hi : ∀ (rt : Option Value → St → Rs) cl (k : Nat → Nat → Lv → List Value → St → Rs), cstep P mi me rt cl k i c pc ls st s = match pstep i pc ls st with | some (pc', ls', st') => k c pc' ls' st' s | none => none) (h : pstep i pc ls st = some (pc', ls', st')) (hq : wpc P mi me c pc' ls' st' s Q) : wpc P mi me c pc ls st s Q :=
  wpc_one hf (fun rt cl k => by rw [hi, h]) hq
theorem wpc_idiv {x y : Int32} (hf : fetch me.cd pc = some (.idiv, n)) (hy : ¬ y = 0) (hq : wpc P mi me c (pc + 1) ls (.int (x / y) :: r) s Q) : wpc P mi me c pc ls (.int y :: .int x :: r) s Q :=
  wpc_pl hf (fun _ _ _ => rfl) (by simp only [pstep, qstep]; rw [if_neg hy]) hq
theorem wpc_irem {x y : Int32} (hf : fetch me.cd pc = some (.irem, n)) (hy : ¬ y = 0) (hq : wpc P mi me c (pc + 1) ls (.int (x % y) :: r) s Q) : wpc P mi me c pc ls (.int y :: .int x :: r) s Q :=
  wpc_pl hf (fun _ _ _ => rfl) (by simp only [pstep, qstep]; rw [if_neg hy]) hq
theorem wpc_ldiv {x y : Int64} (hf : fetch me.cd pc = some (.ldiv, n)) (hy : ¬ y = 0) (hq : wpc P mi me c (pc + 1) ls (.long (x / y) :: r) s Q) : wpc P mi me c pc ls (.long y :: .long x :: r) s Q :=
  wpc_pl hf (fun _ _ _ => rfl) (by simp only [pstep, qstep]; rw [if_neg hy]) hq
end C
/-- the roads of a switch: one a value, from l on -/
def TS (x : Int32) (F : Int → Prop) : List Int → Int → Prop
  | [], _ => True
  | o :: r, l => (x.toInt = l → F o) ∧ TS x F r (l + 1)
theorem TS_at {x : Int32} {F : Int → Prop} : ∀ {os : List Int} {l : Int}, TS x F os l → l ≤ x.toInt → x.toInt < l + os.length → ∃ o, os[(x.toInt - l).toNat]? = some o ∧ F o := by
  intro os
  induction os with
  | nil => intro l _ h1 h2; simp at h2; omega
  | cons o r ih =>
    intro l h h1 h2
    by_cases e : x.toInt = l
    · exact ⟨o, by rw [e]; simp, h.1 e⟩
    · obtain ⟨o', q1, q2⟩ := ih h.2 (by omega) (by simp at h2; omega)
      refine ⟨o', ?_, q2⟩
      have : (x.toInt - l).toNat = (x.toInt - (l + 1)).toNat + 1 := by omega
      rw [this]; simpa using q1
theorem tsw_ok {x : Int32} {F : Int → Prop} {pc : Nat} {ls : Lv} {r : List Value} {d lo hi : Int} {offs : Array Int} (hd : 0 ≤ (pc : Int) + d) (ho : ∀ o ∈ offs.toList, 0 ≤ (pc : Int) + o) (hh : hi + 1 = lo + offs.toList.length)
    (h1 : TS x F offs.toList lo) (h2 : (x.toInt < lo ∨ x.toInt > hi) → F d) : ∃ o, F o ∧ pstep (.tableswitch d lo hi offs) pc ls (.int x :: r) = some (jmp pc o, ls, r) := by
  by_cases hx : x.toInt < lo ∨ x.toInt > hi
  · refine ⟨d, h2 hx, ?_⟩
    simp only [pstep, qstep]; rw [if_pos hx, if_pos hd]
  · obtain ⟨o, q1, q2⟩ := TS_at h1 (by omega) (by omega)
    have q3 : offs[(x.toInt - lo).toNat]? = some o := by rw [← Array.getElem?_toList]; exact q1
    refine ⟨o, q2, ?_⟩
    simp only [pstep, qstep]; rw [if_neg hx, q3]; dsimp only; rw [if_pos (ho o (List.mem_of_getElem? q1))]
theorem wpc_tsw {P : Cl} {mi : Nat} {me : Me} {c pc n : Nat} {ls : Lv} {r : List Value} {s : St} {Q : Option Value → St → Prop} {x : Int32} {d lo hi : Int} {offs : Array Int} (hf : fetch me.cd pc = some (.tableswitch d lo hi offs, n)) (hd : 0 ≤ (pc : Int) + d) (ho : ∀ o ∈ offs.toList, 0 ≤ (pc : Int) + o) (hh : hi + 1 = lo + offs.toList.length)
    (h1 : TS x (fun o => wpc P mi me c (jmp pc o) ls r s Q) offs.toList lo) (h2 : (x.toInt < lo ∨ x.toInt > hi) → wpc P mi me c (jmp pc d) ls r s Q) : wpc P mi me c pc ls (.int x :: r) s Q := by
  obtain ⟨o, q1, q2⟩ := tsw_ok (ls := ls) (r := r) hd ho hh h1 h2
  exact wpc_pl hf (fun _ _ _ => rfl) q2 q1
section L
variable {P : Cl} {Q : Lw} {sc : Sc} {mi : Nat} {me : Me} {pc n : Nat} {ls : Lv} {r : List Value} {w : Wd} {R : Option Value → Wd → Prop}
theorem wpl_pl {i : Instr} {pc' : Nat} {ls' : Lv} {st st' : List Value} (hf : fetch me.cd pc = some (i, n)) (hi : isPl i = true) (h : pstep i pc ls st = some (pc', ls', st')) (hq : wpl P Q sc mi me pc' ls' st' w R) : wpl P Q sc mi me pc ls st w R :=
  wpl_one hf (fun rt cc cl k => by rw [lstep_pl hi, h]) hq
theorem wpl_idiv {x y : Int32} (hf : fetch me.cd pc = some (.idiv, n)) (hy : ¬ y = 0) (hq : wpl P Q sc mi me (pc + 1) ls (.int (x / y) :: r) w R) : wpl P Q sc mi me pc ls (.int y :: .int x :: r) w R :=
  wpl_pl hf rfl (by simp only [pstep, qstep]; rw [if_neg hy]) hq
theorem wpl_irem {x y : Int32} (hf : fetch me.cd pc = some (.irem, n)) (hy : ¬ y = 0) (hq : wpl P Q sc mi me (pc + 1) ls (.int (x % y) :: r) w R) : wpl P Q sc mi me pc ls (.int y :: .int x :: r) w R :=
  wpl_pl hf rfl (by simp only [pstep, qstep]; rw [if_neg hy]) hq
theorem wpl_ldiv {x y : Int64} (hf : fetch me.cd pc = some (.ldiv, n)) (hy : ¬ y = 0) (hq : wpl P Q sc mi me (pc + 1) ls (.long (x / y) :: r) w R) : wpl P Q sc mi me pc ls (.long y :: .long x :: r) w R :=
  wpl_pl hf rfl (by simp only [pstep, qstep]; rw [if_neg hy]) hq
theorem wpl_tsw {x : Int32} {d lo hi : Int} {offs : Array Int} (hf : fetch me.cd pc = some (.tableswitch d lo hi offs, n)) (hd : 0 ≤ (pc : Int) + d) (ho : ∀ o ∈ offs.toList, 0 ≤ (pc : Int) + o) (hh : hi + 1 = lo + offs.toList.length)
    (h1 : TS x (fun o => wpl P Q sc mi me (jmp pc o) ls r w R) offs.toList lo) (h2 : (x.toInt < lo ∨ x.toInt > hi) → wpl P Q sc mi me (jmp pc d) ls r w R) : wpl P Q sc mi me pc ls (.int x :: r) w R := by
  obtain ⟨o, q1, q2⟩ := tsw_ok (ls := ls) (r := r) hd ho hh h1 h2
  exact wpl_pl hf rfl q2 q1
end L
/-! the links, by lists -/
def AllA {α : Type} (Q : Nat → α → Prop) : List (Nat × α) → Prop
  | [] => True
  | (a, b) :: r => Q a b ∧ AllA Q r
theorem asc_all {α : Type} {Q : Nat → α → Prop} {l : List (Nat × α)} (h : AllA Q l) : ∀ k v, asc l k = some v → Q k v := by
  induction l with
  | nil => intro k v e; cases e
  | cons x r ih =>
    intro k v e
    obtain ⟨a, b⟩ := x
    simp only [asc] at e
    cases q : Nat.beq a k
    · rw [q] at e; exact ih h.2 k v e
    · rw [q] at e; cases e
      obtain rfl := Nat.eq_of_beq_eq_true q
      exact h.1
def AllL (Q : Nat → Nat → Prop) : List (Nat × Nat) → Prop
  | [] => True
  | (a, b) :: r => Q a b ∧ AllL Q r
theorem lst_all {Q : Nat → Nat → Prop} {l : List (Nat × Nat)} (h : AllL Q l) : ∀ (j tt N : Nat), l[j]? = some (tt, N) → Q tt N := by
  induction l with
  | nil => intro j tt N e; simp at e
  | cons x r ih =>
    intro j tt N e
    obtain ⟨a, b⟩ := x
    cases j with
    | zero => simp at e; obtain ⟨rfl, rfl⟩ := e; exact h.1
    | succ j => simp at e; exact ih h.2 j tt N e
def dst1 (k : Nat) (fe : Fe) : List (Nat × Fe) → Bool
  | [] => true
  | (k', fe') :: r => (!(fe.1 == fe'.1)) && (decide (fe.2.2.1 < 3) || !(Nat.beq fe.2.2.1 fe'.2.2.1)) && dst1 k fe r
def dst : List (Nat × Fe) → Bool
  | [] => true
  | (k, fe) :: r => dst1 k fe r && dst r
theorem dst1_ok {k : Nat} {fe : Fe} {l : List (Nat × Fe)} (h : dst1 k fe l = true) : ∀ k' fe', asc l k' = some fe' → fe.1 ≠ fe'.1 ∧ (3 ≤ fe.2.2.1 → fe.2.2.1 ≠ fe'.2.2.1) := by
  induction l with
  | nil => intro k' fe' e; cases e
  | cons x r ih =>
    intro k' fe' e
    obtain ⟨a, b⟩ := x
    simp only [dst1, Bool.and_eq_true] at h
    obtain ⟨⟨h1, h2⟩, h3⟩ := h
    simp only [asc] at e
    cases q : Nat.beq a k'
    · rw [q] at e; exact ih h3 k' fe' e
    · rw [q] at e; cases e
      refine ⟨fun q2 => by rw [q2] at h1; simp at h1, fun q2 q3 => ?_⟩
      rw [q3] at h2 q2
      simp only [Bool.or_eq_true, decide_eq_true_eq, Bool.not_eq_true'] at h2
      rcases h2 with h2 | h2
      · omega
      · rw [Nat.beq_refl] at h2; cases h2
theorem dst_ok {l : List (Nat × Fe)} (h : dst l = true) : ∀ (k k' : Nat) (fe fe' : Fe), asc l k = some fe → asc l k' = some fe' → k ≠ k' → fe.1 ≠ fe'.1 ∧ (3 ≤ fe.2.2.1 → fe.2.2.1 ≠ fe'.2.2.1) := by
  induction l with
  | nil => intro k k' fe fe' e; cases e
  | cons x r ih =>
    intro k k' fe fe' e e' hne
    obtain ⟨a, b⟩ := x
    simp only [dst, Bool.and_eq_true] at h
    simp only [asc] at e e'
    cases q : Nat.beq a k <;> cases q' : Nat.beq a k' <;> rw [q] at e <;> rw [q'] at e'
    · exact ih h.2 k k' fe fe' e e' hne
    · cases e'
      obtain ⟨h1, h2⟩ := dst1_ok h.1 k fe e
      exact ⟨Ne.symm h1, fun z1 z2 => h2 (z2 ▸ z1) z2.symm⟩
    · cases e; exact dst1_ok h.1 k' fe' e'
    · exact absurd ((Nat.eq_of_beq_eq_true q).symm.trans (Nat.eq_of_beq_eq_true q')) hne
def chk (bytes : ByteArray) : Cd → Bool
  | [] => true
  | (pc, i, n) :: r => (match decode bytes pc with | .ok (i', n') => decide (i' = i ∧ n' = n) | .error _ => false) && (isSw i || Nat.beq n (ilen i)) && chk bytes r
theorem chk_ok {bytes : ByteArray} {cd : Cd} (h : chk bytes cd = true) : ∀ pc i n, fetch cd pc = some (i, n) → decode bytes pc = .ok (i, n) ∧ (isSw i = true ∨ n = ilen i) := by
  induction cd with
  | nil => intro pc i n e; cases e
  | cons x r ih =>
    intro pc i n e
    obtain ⟨a, i', n'⟩ := x
    simp only [chk, Bool.and_eq_true] at h
    obtain ⟨⟨h1, h2⟩, h3⟩ := h
    simp only [fetch] at e
    cases q : Nat.beq a pc
    · rw [q] at e; exact ih h3 pc i n e
    · rw [q] at e; cases e
      obtain rfl := Nat.eq_of_beq_eq_true q
      refine ⟨?_, ?_⟩
      · split at h1
        · rename_i i2 n2 hd
          obtain ⟨rfl, rfl⟩ := of_decide_eq_true h1
          exact hd
        · cases h1
      · simp only [Bool.or_eq_true] at h2
        exact h2.imp id Nat.eq_of_beq_eq_true
/-- the array that the law is handed -/
theorem script_of {s : State} {args : Array Value} {a : Addr} {cl : Cell} {t : Term} {k : Int32} (hf : Fit s) (A : Arr s s.heap a cl .int) (ev : t.eval args s none [] s = some (.ref a)) (hl : (Cond.le (Term.length t) (Term.int k)).value args s none s [] = some true) :
    (cl.slots.size < 2 ^ 31 ∧ (cl.slots.size : Int) ≤ k.toInt) ∧ SRep s s.heap a s.heap.size (some (cl.slots.size, fun i => match cl.slots[i]? with | some (.int x) => x | _ => 0)) := by
  obtain ⟨x, y, h1, h2, -⟩ := cmp_v (Or.inr (Or.inr hl))
  have hz : cl.slots.size < 2 ^ 31 := by
    have q : (Term.length t).eval args s none [] s = if cl.slots.size < 2 ^ 31 then some (.int cl.slots.size.toInt32) else none := by simp [Term.eval, ev, A.fin (Vm.Alike.refl _)]
    rw [h1] at q
    split at q
    · assumption
    · cases q
  have h1' := len_f ev (A.fin (Vm.Alike.refl _)) hz (args := args) (first := s) (o := none) (idx := [])
  have hle := gotT (Cond.le_ints h1' (Term.int_eval k)) hl
  rw [Int32.le_iff_toInt_le, len_toInt hz] at hle
  refine ⟨⟨hz, hle⟩, A.lt, cl, A, rfl, fun i hi => ?_⟩
  have e1 : cl.slots[i]? = some cl.slots[i] := Array.getElem?_eq_getElem hi
  have q := elem_fit hf A (j := i.toInt32) (idx_in hi hz)
  have e2 : i.toInt32.toNatClampNeg = i := by
    have := len_toInt (n := i) (by omega)
    simp only [Int32.toNatClampNeg, this]; rfl
  rw [e2] at q
  obtain ⟨v, hv, hfv⟩ := q
  obtain ⟨x, rfl⟩ := fit_I hfv (Or.inl rfl)
  rw [hv]
  dsimp only
  rw [hv]
end Jvm.LM
namespace Jvm.LM
theorem law_run {P : Cl} {Q : Lw} {sc : Sc} {as : List Value} (h : lalI P Q sc 0 as W0 fun v _ => v = 1) {me : Me} (hme : asc Q.ms 0 = some me) : ∃ f w', lexec P Q sc f 0 me 0 (lay as me.ml) [] W0 = some (some (.int 1), w') := by
  obtain ⟨f, v, w', h1, v', rfl, rfl⟩ := h
  refine ⟨f, w', ?_⟩
  simp only [lcall, hme] at h1
  split at h1
  · exact h1
  · cases h1
end Jvm.LM

namespace Jvm.LM
open Jvm.RoadKit
/-! numbers -/
theorem i32_add {x y : Int32} (h1 : -2147483648 ≤ x.toInt + y.toInt) (h2 : x.toInt + y.toInt < 2147483648) : (x + y).toInt = x.toInt + y.toInt := by
  have := c_iadd x y; have := rng32 (x + y); omega
theorem i32_sub {x y : Int32} (h1 : -2147483648 ≤ x.toInt - y.toInt) (h2 : x.toInt - y.toInt < 2147483648) : (x - y).toInt = x.toInt - y.toInt := by
  have := c_isub x y; have := rng32 (x - y); omega
theorem i32_mul {x y : Int32} (h1 : -2147483648 ≤ x.toInt * y.toInt) (h2 : x.toInt * y.toInt < 2147483648) : (x * y).toInt = x.toInt * y.toInt := by
  have := c_imul x y; have := rng32 (x * y); omega
theorem ix_int {i : Int32} (h : 0 ≤ i.toInt) : (ix i : Int) = i.toInt := by simp only [ix, Int32.toNatClampNeg]; omega
theorem ix_inj {i j : Int32} (hi : 0 ≤ i.toInt) (hj : 0 ≤ j.toInt) : ix i = ix j ↔ i = j := by
  have a := ix_int hi; have b := ix_int hj
  rw [← Int32.toInt_inj]; omega
theorem i32_lt {x y : Int32} : x < y ↔ x.toInt < y.toInt := Int32.lt_iff_toInt_lt
theorem i32_eq {x y : Int32} : x = y ↔ x.toInt = y.toInt := Int32.toInt_inj.symm
/-- a loop that counts up to N: from the next turn to this one -/
theorem loop_up {F : Int32 → Prop} (N : Int) (hN : N < 2147483647) (step : ∀ i, 0 ≤ i.toInt → i.toInt < N → (i + 1).toInt = i.toInt + 1 → F (i + 1) → F i) (last : ∀ i, i.toInt = N → F i) : ∀ i, 0 ≤ i.toInt → i.toInt ≤ N → F i := by
  have key : ∀ n : Nat, ∀ i : Int32, 0 ≤ i.toInt → i.toInt + n = N → F i := by
    intro n
    induction n with
    | zero => intro i h0 h1; exact last i (by omega)
    | succ n ih =>
      intro i h0 h1
      have e : (i + 1).toInt = i.toInt + 1 := i32_add (by simp; omega) (by simp; omega)
      exact step i h0 (by omega) e (ih (i + 1) (by omega) (by omega))
  intro i h0 h1
  exact key (N - i.toInt).toNat i h0 (by omega)
theorem cmpL_lt {x y : Int64} : Jvm.Free.XT.cmpL x y < 0 ↔ x < y := by
  unfold Jvm.Free.XT.cmpL; split
  · rename_i h; exact ⟨fun q => absurd q (by decide), fun q => by rw [Int64.lt_iff_toInt_lt] at h q; omega⟩
  · split
    · rename_i h; subst h; exact ⟨fun q => absurd q (by decide), fun q => by rw [Int64.lt_iff_toInt_lt] at q; omega⟩
    · rename_i h1 h2
      refine ⟨fun _ => ?_, fun _ => by decide⟩
      rw [Int64.lt_iff_toInt_lt] at h1 ⊢; rw [← Int64.toInt_inj] at h2; omega
theorem cmpL_gt {x y : Int64} : 0 < Jvm.Free.XT.cmpL x y ↔ y < x := by
  unfold Jvm.Free.XT.cmpL; split
  · rename_i h; exact ⟨fun _ => h, fun _ => by decide⟩
  · rename_i h; split
    · exact ⟨fun q => absurd q (by decide), fun q => absurd q h⟩
    · exact ⟨fun q => absurd q (by decide), fun q => absurd q h⟩
theorem cmpL_eq {x y : Int64} : Jvm.Free.XT.cmpL x y = 0 ↔ x = y := by
  unfold Jvm.Free.XT.cmpL; split
  · rename_i h; exact ⟨fun q => absurd q (by decide), fun q => by subst q; rw [Int64.lt_iff_toInt_lt] at h; omega⟩
  · split
    · rename_i h; exact ⟨fun _ => h, fun _ => rfl⟩
    · rename_i h1 h2; exact ⟨fun q => absurd q (by decide), fun q => absurd q h2⟩
end Jvm.LM

namespace Jvm.Pilot.@@N@@
open Jvm Jvm.ClassFile Sem Op Lib Jvm.Free Jvm.Stand Jvm.LawKit Jvm.RoadKit Jvm.LM Bundle Jvm.Pilot.@@N@@.Jvm.D
def cm0 : Me := ("<init>", "(III)V", 3, 0, [(0, .aload_n 0, 1), (1, .invokespecial 1, 3), (4, .aload_n 0, 1), (5, .sipush 128, 3), (8, .newarray .int, 2), (10, .putfield 7, 3), (13, .aload_n 0, 1), (14, .bipush 32, 2), (16, .newarray .boolean, 2), (18, .putfield 13, 3), (21, .aload_n 0, 1), (22, .bipush 32, 2), (24, .newarray .int, 2), (26, .putfield 17, 3), (29, .aload_n 0, 1), (30, .bipush 8, 2), (32, .newarray .int, 2), (34, .putfield 20, 3), (37, .aload_n 0, 1), (38, .bipush 8, 2), (40, .newarray .boolean, 2), (42, .putfield 23, 3), (45, .aload_n 0, 1), (46, .bipush 8, 2), (48, .newarray .boolean, 2), (50, .putfield 26, 3), (53, .aload_n 0, 1), (54, .bipush 8, 2), (56, .newarray .boolean, 2), (58, .putfield 29, 3), (61, .aload_n 0, 1), (62, .bipush 8, 2), (64, .newarray .boolean, 2), (66, .putfield 32, 3), (69, .aload_n 0, 1), (70, .bipush 8, 2), (72, .newarray .int, 2), (74, .putfield 35, 3), (77, .aload_n 0, 1), (78, .bipush 16, 2), (80, .newarray .int, 2), (82, .putfield 38, 3), (85, .aload_n 0, 1), (86, .bipush 16, 2), (88, .newarray .int, 2), (90, .putfield 41, 3), (93, .aload_n 0, 1), (94, .bipush 16, 2), (96, .newarray .boolean, 2), (98, .putfield 44, 3), (101, .aload_n 0, 1), (102, .iconst 4, 1), (103, .newarray .int, 2), (105, .putfield 47, 3), (108, .aload_n 0, 1), (109, .iconst 4, 1), (110, .newarray .int, 2), (112, .putfield 50, 3), (115, .aload_n 0, 1), (116, .iconst 4, 1), (117, .newarray .int, 2), (119, .putfield 53, 3), (122, .aload_n 0, 1), (123, .iconst 4, 1), (124, .newarray .int, 2), (126, .putfield 56, 3), (129, .aload_n 0, 1), (130, .aload_n 0, 1), (131, .iload_n 1, 1), (132, .bipush 8, 2), (134, .bipush 32, 2), (136, .invokevirtual 59, 3), (139, .putfield 63, 3), (142, .aload_n 0, 1), (143, .aload_n 0, 1), (144, .iload_n 2, 1), (145, .iconst 2, 1), (146, .bipush 8, 2), (148, .invokevirtual 59, 3), (151, .putfield 67, 3), (154, .aload_n 0, 1), (155, .aload_n 0, 1), (156, .iload_n 3, 1), (157, .iconst 1, 1), (158, .iconst 4, 1), (159, .invokevirtual 59, 3), (162, .putfield 70, 3), (165, .iconst 0, 1), (166, .istore 4, 2), (168, .iload 4, 2), (170, .bipush 32, 2), (172, .if_icmp .ge 17, 3), (175, .aload_n 0, 1), (176, .getfield 13, 3), (179, .iload 4, 2), (181, .iconst 1, 1), (182, .bastore, 1), (183, .iinc 4 1, 3), (186, .goto (-18), 3), (189, .iconst 0, 1), (190, .istore 4, 2), (192, .iload 4, 2), (194, .bipush 8, 2), (196, .if_icmp .ge 17, 3), (199, .aload_n 0, 1), (200, .getfield 20, 3), (203, .iload 4, 2), (205, .iconst (-1), 1), (206, .iastore, 1), (207, .iinc 4 1, 3), (210, .goto (-18), 3), (213, .iconst 0, 1), (214, .istore 4, 2), (216, .iload 4, 2), (218, .iconst 4, 1), (219, .if_icmp .ge 26, 3), (222, .aload_n 0, 1), (223, .getfield 47, 3), (226, .iload 4, 2), (228, .bipush (-5), 2), (230, .iastore, 1), (231, .aload_n 0, 1), (232, .getfield 56, 3), (235, .iload 4, 2), (237, .iconst (-1), 1), (238, .iastore, 1), (239, .iinc 4 1, 3), (242, .goto (-26), 3), (245, .aload_n 0, 1), (246, .iconst 0, 1), (247, .putfield 73, 3), (250, .aload_n 0, 1), (251, .iconst 0, 1), (252, .putfield 76, 3), (255, .aload_n 0, 1), (256, .iconst 0, 1), (257, .putfield 79, 3), (260, .return_, 1)], 5, 1, 16)
def cm5 : Me := ("read", "(III)I", 3, 1, [(0, .aload_n 0, 1), (1, .iload_n 1, 1), (2, .invokevirtual 82, 3), (5, .ifCond .eq 6, 3), (8, .bipush (-2), 2), (10, .ireturn, 1), (11, .aload_n 0, 1), (12, .iload_n 2, 1), (13, .invokevirtual 86, 3), (16, .ifCond .eq 6, 3), (19, .bipush (-3), 2), (21, .ireturn, 1), (22, .aload_n 0, 1), (23, .iload_n 3, 1), (24, .invokevirtual 89, 3), (27, .ifCond .eq 6, 3), (30, .bipush (-4), 2), (32, .ireturn, 1), (33, .aload_n 0, 1), (34, .iload_n 1, 1), (35, .iload_n 2, 1), (36, .iconst 1, 1), (37, .invokevirtual 92, 3), (40, .istore 4, 2), (42, .aload_n 0, 1), (43, .iload 4, 2), (45, .iload_n 2, 1), (46, .iload_n 3, 1), (47, .invokevirtual 96, 3), (50, .istore 5, 2), (52, .aload_n 0, 1), (53, .iload 4, 2), (55, .invokevirtual 99, 3), (58, .aload_n 0, 1), (59, .getfield 47, 3), (62, .iload_n 1, 1), (63, .iload 5, 2), (65, .iastore, 1), (66, .aload_n 0, 1), (67, .getfield 50, 3), (70, .iload_n 1, 1), (71, .aload_n 0, 1), (72, .getfield 50, 3), (75, .iload_n 1, 1), (76, .iaload, 1), (77, .iconst 1, 1), (78, .iadd, 1), (79, .iastore, 1), (80, .iload 5, 2), (82, .ireturn, 1)], 6, 4, 66)
def cm6 : Me := ("write", "(IIII)I", 4, 1, [(0, .aload_n 0, 1), (1, .iload_n 1, 1), (2, .invokevirtual 82, 3), (5, .ifCond .eq 6, 3), (8, .bipush (-2), 2), (10, .ireturn, 1), (11, .aload_n 0, 1), (12, .iload_n 2, 1), (13, .invokevirtual 86, 3), (16, .ifCond .eq 6, 3), (19, .bipush (-3), 2), (21, .ireturn, 1), (22, .aload_n 0, 1), (23, .iload_n 3, 1), (24, .invokevirtual 89, 3), (27, .ifCond .eq 6, 3), (30, .bipush (-4), 2), (32, .ireturn, 1), (33, .aload_n 0, 1), (34, .iload_n 1, 1), (35, .iload_n 2, 1), (36, .iconst 1, 1), (37, .invokevirtual 92, 3), (40, .istore 5, 2), (42, .aload_n 0, 1), (43, .iload 5, 2), (45, .iload_n 2, 1), (46, .iload_n 3, 1), (47, .iload 4, 2), (49, .ldc 103, 2), (51, .iand, 1), (52, .invokevirtual 104, 3), (55, .aload_n 0, 1), (56, .iload 5, 2), (58, .invokevirtual 108, 3), (61, .aload_n 0, 1), (62, .iload 5, 2), (64, .invokevirtual 99, 3), (67, .aload_n 0, 1), (68, .getfield 13, 3), (71, .iload_n 2, 1), (72, .iconst 0, 1), (73, .bastore, 1), (74, .aload_n 0, 1), (75, .getfield 53, 3), (78, .iload_n 1, 1), (79, .aload_n 0, 1), (80, .getfield 53, 3), (83, .iload_n 1, 1), (84, .iaload, 1), (85, .iconst 1, 1), (86, .iadd, 1), (87, .iastore, 1), (88, .iconst 0, 1), (89, .ireturn, 1)], 6, 4, 66)
def cm7 : Me := ("fill", "(III)I", 3, 1, [(0, .aload_n 0, 1), (1, .iload_n 1, 1), (2, .invokevirtual 82, 3), (5, .ifCond .eq 6, 3), (8, .bipush (-2), 2), (10, .ireturn, 1), (11, .aload_n 0, 1), (12, .iload_n 2, 1), (13, .invokevirtual 86, 3), (16, .ifCond .eq 6, 3), (19, .bipush (-3), 2), (21, .ireturn, 1), (22, .iload_n 3, 1), (23, .ldc 103, 2), (25, .iand, 1), (26, .istore 4, 2), (28, .aload_n 0, 1), (29, .iload_n 1, 1), (30, .iload_n 2, 1), (31, .iconst 0, 1), (32, .invokevirtual 92, 3), (35, .istore 5, 2), (37, .iconst 0, 1), (38, .istore 6, 2), (40, .iload 6, 2), (42, .iconst 4, 1), (43, .if_icmp .ge 20, 3), (46, .aload_n 0, 1), (47, .iload 5, 2), (49, .iload_n 2, 1), (50, .iload 6, 2), (52, .iload 4, 2), (54, .invokevirtual 104, 3), (57, .iinc 6 1, 3), (60, .goto (-20), 3), (63, .aload_n 0, 1), (64, .iload 5, 2), (66, .invokevirtual 111, 3), (69, .aload_n 0, 1), (70, .iload 5, 2), (72, .invokevirtual 99, 3), (75, .aload_n 0, 1), (76, .getfield 13, 3), (79, .iload_n 2, 1), (80, .iconst 0, 1), (81, .bastore, 1), (82, .aload_n 0, 1), (83, .getfield 53, 3), (86, .iload_n 1, 1), (87, .aload_n 0, 1), (88, .getfield 53, 3), (91, .iload_n 1, 1), (92, .iaload, 1), (93, .iconst 1, 1), (94, .iadd, 1), (95, .iastore, 1), (96, .iconst 0, 1), (97, .ireturn, 1)], 7, 4, 66)
def cm8 : Me := ("copyBlock", "(III)I", 3, 1, [(0, .aload_n 0, 1), (1, .iload_n 1, 1), (2, .invokevirtual 82, 3), (5, .ifCond .eq 6, 3), (8, .bipush (-2), 2), (10, .ireturn, 1), (11, .aload_n 0, 1), (12, .iload_n 2, 1), (13, .invokevirtual 86, 3), (16, .ifCond .eq 6, 3), (19, .bipush (-3), 2), (21, .ireturn, 1), (22, .aload_n 0, 1), (23, .iload_n 3, 1), (24, .invokevirtual 86, 3), (27, .ifCond .eq 6, 3), (30, .bipush (-3), 2), (32, .ireturn, 1), (33, .aload_n 0, 1), (34, .iload_n 1, 1), (35, .iload_n 2, 1), (36, .iconst 1, 1), (37, .invokevirtual 92, 3), (40, .istore 4, 2), (42, .iload_n 2, 1), (43, .iload_n 3, 1), (44, .if_icmp .ne 18, 3), (47, .aload_n 0, 1), (48, .iload 4, 2), (50, .invokevirtual 108, 3), (53, .aload_n 0, 1), (54, .iload 4, 2), (56, .invokevirtual 99, 3), (59, .goto 12, 3), (62, .aload_n 0, 1), (63, .iload_n 1, 1), (64, .iload 4, 2), (66, .iload_n 2, 1), (67, .iload_n 3, 1), (68, .invokevirtual 114, 3), (71, .aload_n 0, 1), (72, .getfield 13, 3), (75, .iload_n 3, 1), (76, .iconst 0, 1), (77, .bastore, 1), (78, .aload_n 0, 1), (79, .getfield 50, 3), (82, .iload_n 1, 1), (83, .aload_n 0, 1), (84, .getfield 50, 3), (87, .iload_n 1, 1), (88, .iaload, 1), (89, .iconst 1, 1), (90, .iadd, 1), (91, .iastore, 1), (92, .aload_n 0, 1), (93, .getfield 53, 3), (96, .iload_n 1, 1), (97, .aload_n 0, 1), (98, .getfield 53, 3), (101, .iload_n 1, 1), (102, .iaload, 1), (103, .iconst 1, 1), (104, .iadd, 1), (105, .iastore, 1), (106, .iconst 0, 1), (107, .ireturn, 1)], 5, 5, 87)
def cm9 : Me := ("step", "(I)V", 1, 0, [(0, .aload_n 0, 1), (1, .iload_n 1, 1), (2, .iconst 0, 1), (3, .bipush 64, 2), (5, .invokevirtual 59, 3), (8, .istore_n 2, 1), (9, .iconst 0, 1), (10, .istore_n 3, 1), (11, .iload_n 3, 1), (12, .iload_n 2, 1), (13, .if_icmp .ge 19, 3), (16, .aload_n 0, 1), (17, .invokevirtual 117, 3), (20, .ifCond .ne 6, 3), (23, .goto 9, 3), (26, .iinc 3 1, 3), (29, .goto (-18), 3), (32, .return_, 1)], 4, 2, 34)
def cm10 : Me := ("syncBlock", "(I)I", 1, 1, [(0, .aload_n 0, 1), (1, .iload_n 1, 1), (2, .invokevirtual 86, 3), (5, .ifCond .eq 6, 3), (8, .bipush (-3), 2), (10, .ireturn, 1), (11, .aload_n 0, 1), (12, .iload_n 1, 1), (13, .invokevirtual 121, 3), (16, .istore_n 2, 1), (17, .iload_n 2, 1), (18, .ifCond .lt 59, 3), (21, .aload_n 0, 1), (22, .iconst (-1), 1), (23, .iload_n 2, 1), (24, .invokevirtual 125, 3), (27, .aload_n 0, 1), (28, .getfield 26, 3), (31, .iload_n 2, 1), (32, .baload, 1), (33, .ifCond .eq 38, 3), (36, .aload_n 0, 1), (37, .getfield 23, 3), (40, .iload_n 2, 1), (41, .baload, 1), (42, .ifCond .eq 29, 3), (45, .aload_n 0, 1), (46, .getfield 29, 3), (49, .iload_n 2, 1), (50, .baload, 1), (51, .ifCond .ne 20, 3), (54, .aload_n 0, 1), (55, .iload_n 2, 1), (56, .iload_n 1, 1), (57, .iconst 1, 1), (58, .invokevirtual 129, 3), (61, .ifCond .eq 10, 3), (64, .aload_n 0, 1), (65, .getfield 29, 3), (68, .iload_n 2, 1), (69, .iconst 1, 1), (70, .bastore, 1), (71, .aload_n 0, 1), (72, .iconst (-1), 1), (73, .iload_n 2, 1), (74, .invokevirtual 125, 3), (77, .aload_n 0, 1), (78, .getfield 13, 3), (81, .iload_n 1, 1), (82, .iconst 1, 1), (83, .bastore, 1), (84, .iconst 0, 1), (85, .ireturn, 1)], 3, 3, 50)
def cm11 : Me := ("sync", "()V", 0, 0, [(0, .iconst 0, 1), (1, .istore_n 1, 1), (2, .iload_n 1, 1), (3, .aload_n 0, 1), (4, .getfield 67, 3), (7, .if_icmp .ge 64, 3), (10, .aload_n 0, 1), (11, .getfield 20, 3), (14, .iload_n 1, 1), (15, .iaload, 1), (16, .istore_n 2, 1), (17, .aload_n 0, 1), (18, .getfield 26, 3), (21, .iload_n 1, 1), (22, .baload, 1), (23, .ifCond .eq 42, 3), (26, .aload_n 0, 1), (27, .getfield 23, 3), (30, .iload_n 1, 1), (31, .baload, 1), (32, .ifCond .eq 33, 3), (35, .aload_n 0, 1), (36, .getfield 29, 3), (39, .iload_n 1, 1), (40, .baload, 1), (41, .ifCond .ne 24, 3), (44, .iload_n 2, 1), (45, .ifCond .lt 20, 3), (48, .aload_n 0, 1), (49, .iload_n 1, 1), (50, .iload_n 2, 1), (51, .iconst 1, 1), (52, .invokevirtual 129, 3), (55, .ifCond .eq 10, 3), (58, .aload_n 0, 1), (59, .getfield 29, 3), (62, .iload_n 1, 1), (63, .iconst 1, 1), (64, .bastore, 1), (65, .iinc 1 1, 3), (68, .goto (-66), 3), (71, .aload_n 0, 1), (72, .invokevirtual 133, 3), (75, .iconst 0, 1), (76, .istore_n 1, 1), (77, .iload_n 1, 1), (78, .bipush 32, 2), (80, .if_icmp .ge 16, 3), (83, .aload_n 0, 1), (84, .getfield 13, 3), (87, .iload_n 1, 1), (88, .iconst 1, 1), (89, .bastore, 1), (90, .iinc 1 1, 3), (93, .goto (-16), 3), (96, .return_, 1)], 3, 3, 47)
def cm12 : Me := ("diskWord", "(II)I", 2, 1, [(0, .aload_n 0, 1), (1, .iload_n 1, 1), (2, .invokevirtual 86, 3), (5, .ifCond .eq 6, 3), (8, .bipush (-3), 2), (10, .ireturn, 1), (11, .aload_n 0, 1), (12, .iload_n 2, 1), (13, .invokevirtual 89, 3), (16, .ifCond .eq 6, 3), (19, .bipush (-4), 2), (21, .ireturn, 1), (22, .aload_n 0, 1), (23, .getfield 13, 3), (26, .iload_n 1, 1), (27, .baload, 1), (28, .ifCond .ne 5, 3), (31, .iconst (-1), 1), (32, .ireturn, 1), (33, .aload_n 0, 1), (34, .getfield 7, 3), (37, .iload_n 1, 1), (38, .iconst 4, 1), (39, .imul, 1), (40, .iload_n 2, 1), (41, .iadd, 1), (42, .iaload, 1), (43, .ireturn, 1)], 3, 1, 13)
def cm13 : Me := ("unsyncedCount", "()I", 0, 1, [(0, .iconst 0, 1), (1, .istore_n 1, 1), (2, .iconst 0, 1), (3, .istore_n 2, 1), (4, .iload_n 2, 1), (5, .aload_n 0, 1), (6, .getfield 63, 3), (9, .if_icmp .ge 21, 3), (12, .aload_n 0, 1), (13, .getfield 13, 3), (16, .iload_n 2, 1), (17, .baload, 1), (18, .ifCond .ne 6, 3), (21, .iinc 1 1, 3), (24, .iinc 2 1, 3), (27, .goto (-23), 3), (30, .iload_n 1, 1), (31, .ireturn, 1)], 3, 0, 0)
def cm14 : Me := ("blockSum", "(I)I", 1, 1, [(0, .aload_n 0, 1), (1, .iload_n 1, 1), (2, .invokevirtual 86, 3), (5, .ifCond .eq 6, 3), (8, .bipush (-3), 2), (10, .ireturn, 1), (11, .iconst 0, 1), (12, .istore_n 2, 1), (13, .iconst 0, 1), (14, .istore_n 3, 1), (15, .iload_n 3, 1), (16, .iconst 4, 1), (17, .if_icmp .ge 18, 3), (20, .iload_n 2, 1), (21, .aload_n 0, 1), (22, .iload_n 1, 1), (23, .iload_n 3, 1), (24, .invokevirtual 136, 3), (27, .iadd, 1), (28, .istore_n 2, 1), (29, .iinc 3 1, 3), (32, .goto (-17), 3), (35, .iload_n 2, 1), (36, .ireturn, 1)], 4, 2, 30)
def cm15 : Me := ("lastRead", "(I)I", 1, 1, [(0, .aload_n 0, 1), (1, .iload_n 1, 1), (2, .invokevirtual 82, 3), (5, .ifCond .eq 6, 3), (8, .bipush (-2), 2), (10, .ireturn, 1), (11, .aload_n 0, 1), (12, .getfield 47, 3), (15, .iload_n 1, 1), (16, .iaload, 1), (17, .ireturn, 1)], 2, 1, 13)
def cm16 : Me := ("readCount", "(I)I", 1, 1, [(0, .aload_n 0, 1), (1, .iload_n 1, 1), (2, .invokevirtual 82, 3), (5, .ifCond .eq 6, 3), (8, .bipush (-2), 2), (10, .ireturn, 1), (11, .aload_n 0, 1), (12, .getfield 50, 3), (15, .iload_n 1, 1), (16, .iaload, 1), (17, .ireturn, 1)], 2, 1, 13)
def cm17 : Me := ("writeCount", "(I)I", 1, 1, [(0, .aload_n 0, 1), (1, .iload_n 1, 1), (2, .invokevirtual 82, 3), (5, .ifCond .eq 6, 3), (8, .bipush (-2), 2), (10, .ireturn, 1), (11, .aload_n 0, 1), (12, .getfield 53, 3), (15, .iload_n 1, 1), (16, .iaload, 1), (17, .ireturn, 1)], 2, 1, 13)
def cm18 : Me := ("clamp", "(III)I", 3, 1, [(0, .iload_n 1, 1), (1, .iload_n 2, 1), (2, .if_icmp .ge 5, 3), (5, .iload_n 2, 1), (6, .ireturn, 1), (7, .iload_n 1, 1), (8, .iload_n 3, 1), (9, .if_icmp .le 5, 3), (12, .iload_n 3, 1), (13, .ireturn, 1), (14, .iload_n 1, 1), (15, .ireturn, 1)], 4, 0, 0)
def cm19 : Me := ("badProc", "(I)Z", 1, 2, [(0, .iload_n 1, 1), (1, .ifCond .lt 11, 3), (4, .iload_n 1, 1), (5, .aload_n 0, 1), (6, .getfield 70, 3), (9, .if_icmp .lt 7, 3), (12, .iconst 1, 1), (13, .goto 4, 3), (16, .iconst 0, 1), (17, .ireturn, 1)], 2, 0, 0)
def cm20 : Me := ("badBlock", "(I)Z", 1, 2, [(0, .iload_n 1, 1), (1, .ifCond .lt 11, 3), (4, .iload_n 1, 1), (5, .aload_n 0, 1), (6, .getfield 63, 3), (9, .if_icmp .lt 7, 3), (12, .iconst 1, 1), (13, .goto 4, 3), (16, .iconst 0, 1), (17, .ireturn, 1)], 2, 0, 0)
def cm21 : Me := ("badWord", "(I)Z", 1, 2, [(0, .iload_n 1, 1), (1, .ifCond .lt 8, 3), (4, .iload_n 1, 1), (5, .iconst 4, 1), (6, .if_icmp .lt 7, 3), (9, .iconst 1, 1), (10, .goto 4, 3), (13, .iconst 0, 1), (14, .ireturn, 1)], 2, 0, 0)
def cm22 : Me := ("goodBuf", "(I)Z", 1, 2, [(0, .iload_n 1, 1), (1, .ifCond .lt 15, 3), (4, .iload_n 1, 1), (5, .aload_n 0, 1), (6, .getfield 67, 3), (9, .if_icmp .ge 7, 3), (12, .iconst 1, 1), (13, .goto 4, 3), (16, .iconst 0, 1), (17, .ireturn, 1)], 2, 0, 0)
def cm23 : Me := ("copyBetween", "(IIII)V", 4, 0, [(0, .aload_n 0, 1), (1, .iload_n 2, 1), (2, .iload_n 3, 1), (3, .iconst 0, 1), (4, .invokevirtual 96, 3), (7, .istore 5, 2), (9, .aload_n 0, 1), (10, .iload_n 2, 1), (11, .iload_n 3, 1), (12, .iconst 1, 1), (13, .invokevirtual 96, 3), (16, .istore 6, 2), (18, .aload_n 0, 1), (19, .iload_n 2, 1), (20, .iload_n 3, 1), (21, .iconst 2, 1), (22, .invokevirtual 96, 3), (25, .istore 7, 2), (27, .aload_n 0, 1), (28, .iload_n 2, 1), (29, .iload_n 3, 1), (30, .iconst 3, 1), (31, .invokevirtual 96, 3), (34, .istore 8, 2), (36, .aload_n 0, 1), (37, .iload_n 1, 1), (38, .iload 4, 2), (40, .iconst 0, 1), (41, .invokevirtual 92, 3), (44, .istore 9, 2), (46, .aload_n 0, 1), (47, .iload 9, 2), (49, .iload 4, 2), (51, .iconst 0, 1), (52, .iload 5, 2), (54, .invokevirtual 104, 3), (57, .aload_n 0, 1), (58, .iload 9, 2), (60, .iload 4, 2), (62, .iconst 1, 1), (63, .iload 6, 2), (65, .invokevirtual 104, 3), (68, .aload_n 0, 1), (69, .iload 9, 2), (71, .iload 4, 2), (73, .iconst 2, 1), (74, .iload 7, 2), (76, .invokevirtual 104, 3), (79, .aload_n 0, 1), (80, .iload 9, 2), (82, .iload 4, 2), (84, .iconst 3, 1), (85, .iload 8, 2), (87, .invokevirtual 104, 3), (90, .aload_n 0, 1), (91, .iload 9, 2), (93, .invokevirtual 111, 3), (96, .aload_n 0, 1), (97, .iload 9, 2), (99, .invokevirtual 99, 3), (102, .aload_n 0, 1), (103, .iload_n 2, 1), (104, .invokevirtual 99, 3), (107, .return_, 1)], 10, 4, 66)
def cm24 : Me := ("loadWord", "(III)I", 3, 1, [(0, .aload_n 0, 1), (1, .iload_n 1, 1), (2, .invokevirtual 140, 3), (5, .ifCond .eq 23, 3), (8, .aload_n 0, 1), (9, .getfield 23, 3), (12, .iload_n 1, 1), (13, .baload, 1), (14, .ifCond .eq 14, 3), (17, .aload_n 0, 1), (18, .getfield 17, 3), (21, .iload_n 1, 1), (22, .iconst 4, 1), (23, .imul, 1), (24, .iload_n 3, 1), (25, .iadd, 1), (26, .iaload, 1), (27, .ireturn, 1), (28, .aload_n 0, 1), (29, .getfield 7, 3), (32, .iload_n 2, 1), (33, .iconst 4, 1), (34, .imul, 1), (35, .iload_n 3, 1), (36, .iadd, 1), (37, .iaload, 1), (38, .ireturn, 1)], 4, 1, 13)
def cm25 : Me := ("storeWord", "(IIII)V", 4, 0, [(0, .aload_n 0, 1), (1, .iload_n 1, 1), (2, .invokevirtual 140, 3), (5, .ifCond .eq 18, 3), (8, .aload_n 0, 1), (9, .getfield 17, 3), (12, .iload_n 1, 1), (13, .iconst 4, 1), (14, .imul, 1), (15, .iload_n 3, 1), (16, .iadd, 1), (17, .iload 4, 2), (19, .iastore, 1), (20, .goto 15, 3), (23, .aload_n 0, 1), (24, .getfield 7, 3), (27, .iload_n 2, 1), (28, .iconst 4, 1), (29, .imul, 1), (30, .iload_n 3, 1), (31, .iadd, 1), (32, .iload 4, 2), (34, .iastore, 1), (35, .return_, 1)], 5, 1, 13)
def cm26 : Me := ("peekWord", "(II)I", 2, 1, [(0, .aload_n 0, 1), (1, .iload_n 1, 1), (2, .invokevirtual 121, 3), (5, .istore_n 3, 1), (6, .iload_n 3, 1), (7, .ifCond .lt 23, 3), (10, .aload_n 0, 1), (11, .getfield 23, 3), (14, .iload_n 3, 1), (15, .baload, 1), (16, .ifCond .eq 14, 3), (19, .aload_n 0, 1), (20, .getfield 17, 3), (23, .iload_n 3, 1), (24, .iconst 4, 1), (25, .imul, 1), (26, .iload_n 2, 1), (27, .iadd, 1), (28, .iaload, 1), (29, .ireturn, 1), (30, .aload_n 0, 1), (31, .getfield 7, 3), (34, .iload_n 1, 1), (35, .iconst 4, 1), (36, .imul, 1), (37, .iload_n 2, 1), (38, .iadd, 1), (39, .iaload, 1), (40, .ireturn, 1)], 4, 1, 14)
def cm27 : Me := ("markDirty", "(I)V", 1, 0, [(0, .aload_n 0, 1), (1, .iload_n 1, 1), (2, .invokevirtual 140, 3), (5, .ifCond .eq 10, 3), (8, .aload_n 0, 1), (9, .getfield 26, 3), (12, .iload_n 1, 1), (13, .iconst 1, 1), (14, .bastore, 1), (15, .return_, 1)], 2, 1, 13)
def cm28 : Me := ("markFull", "(I)V", 1, 0, [(0, .aload_n 0, 1), (1, .iload_n 1, 1), (2, .invokevirtual 140, 3), (5, .ifCond .eq 17, 3), (8, .aload_n 0, 1), (9, .getfield 23, 3), (12, .iload_n 1, 1), (13, .iconst 1, 1), (14, .bastore, 1), (15, .aload_n 0, 1), (16, .getfield 26, 3), (19, .iload_n 1, 1), (20, .iconst 1, 1), (21, .bastore, 1), (22, .return_, 1)], 2, 1, 13)
def cm29 : Me := ("release", "(I)V", 1, 0, [(0, .aload_n 0, 1), (1, .iload_n 1, 1), (2, .invokevirtual 140, 3), (5, .ifCond .eq 10, 3), (8, .aload_n 0, 1), (9, .getfield 32, 3), (12, .iload_n 1, 1), (13, .iconst 0, 1), (14, .bastore, 1), (15, .return_, 1)], 2, 1, 13)
def cm30 : Me := ("touch", "(I)V", 1, 0, [(0, .aload_n 0, 1), (1, .aload_n 0, 1), (2, .getfield 73, 3), (5, .iconst 1, 1), (6, .iadd, 1), (7, .putfield 73, 3), (10, .aload_n 0, 1), (11, .getfield 35, 3), (14, .iload_n 1, 1), (15, .aload_n 0, 1), (16, .getfield 73, 3), (19, .iastore, 1), (20, .return_, 1)], 2, 0, 0)
def cm31 : Me := ("findBuf", "(I)I", 1, 1, [(0, .iconst 0, 1), (1, .istore_n 2, 1), (2, .iload_n 2, 1), (3, .aload_n 0, 1), (4, .getfield 67, 3), (7, .if_icmp .ge 21, 3), (10, .aload_n 0, 1), (11, .getfield 20, 3), (14, .iload_n 2, 1), (15, .iaload, 1), (16, .iload_n 1, 1), (17, .if_icmp .ne 5, 3), (20, .iload_n 2, 1), (21, .ireturn, 1), (22, .iinc 2 1, 3), (25, .goto (-23), 3), (28, .iconst (-1), 1), (29, .ireturn, 1)], 3, 0, 0)
def cm32 : Me := ("getBlock", "(IIZ)I", 3, 1, [(0, .aload_n 0, 1), (1, .iload_n 2, 1), (2, .invokevirtual 121, 3), (5, .istore 4, 2), (7, .iload 4, 2), (9, .ifCond .lt 13, 3), (12, .aload_n 0, 1), (13, .iload_n 1, 1), (14, .iload 4, 2), (16, .invokevirtual 125, 3), (19, .goto 40, 3), (22, .aload_n 0, 1), (23, .invokevirtual 143, 3), (26, .istore 4, 2), (28, .iload 4, 2), (30, .ifCond .ge 5, 3), (33, .iconst (-1), 1), (34, .ireturn, 1), (35, .aload_n 0, 1), (36, .getfield 20, 3), (39, .iload 4, 2), (41, .iload_n 2, 1), (42, .iastore, 1), (43, .aload_n 0, 1), (44, .getfield 23, 3), (47, .iload 4, 2), (49, .iconst 0, 1), (50, .bastore, 1), (51, .aload_n 0, 1), (52, .getfield 26, 3), (55, .iload 4, 2), (57, .iconst 0, 1), (58, .bastore, 1), (59, .aload_n 0, 1), (60, .getfield 32, 3), (63, .iload 4, 2), (65, .iconst 1, 1), (66, .bastore, 1), (67, .aload_n 0, 1), (68, .iload 4, 2), (70, .invokevirtual 147, 3), (73, .iload_n 3, 1), (74, .ifCond .eq 39, 3), (77, .aload_n 0, 1), (78, .getfield 23, 3), (81, .iload 4, 2), (83, .baload, 1), (84, .ifCond .ne 29, 3), (87, .aload_n 0, 1), (88, .iload 4, 2), (90, .iload_n 2, 1), (91, .iconst 0, 1), (92, .invokevirtual 129, 3), (95, .ifCond .eq 11, 3), (98, .aload_n 0, 1), (99, .getfield 29, 3), (102, .iload 4, 2), (104, .iconst 1, 1), (105, .bastore, 1), (106, .aload_n 0, 1), (107, .iload_n 1, 1), (108, .iload 4, 2), (110, .invokevirtual 125, 3), (113, .iload 4, 2), (115, .ireturn, 1)], 5, 3, 50)
def cm33 : Me := ("allocate", "()I", 0, 1, [(0, .iconst 0, 1), (1, .istore_n 1, 1), (2, .iload_n 1, 1), (3, .bipush 64, 2), (5, .if_icmp .ge 85, 3), (8, .aload_n 0, 1), (9, .invokevirtual 150, 3), (12, .istore_n 2, 1), (13, .iload_n 2, 1), (14, .ifCond .ge 12, 3), (17, .aload_n 0, 1), (18, .invokevirtual 117, 3), (21, .ifCond .ne 63, 3), (24, .iconst (-1), 1), (25, .ireturn, 1), (26, .aload_n 0, 1), (27, .getfield 26, 3), (30, .iload_n 2, 1), (31, .baload, 1), (32, .ifCond .eq 50, 3), (35, .aload_n 0, 1), (36, .getfield 23, 3), (39, .iload_n 2, 1), (40, .baload, 1), (41, .ifCond .eq 41, 3), (44, .aload_n 0, 1), (45, .getfield 20, 3), (48, .iload_n 2, 1), (49, .iaload, 1), (50, .ifCond .lt 32, 3), (53, .aload_n 0, 1), (54, .getfield 20, 3), (57, .iload_n 2, 1), (58, .iaload, 1), (59, .istore_n 3, 1), (60, .aload_n 0, 1), (61, .iload_n 2, 1), (62, .iload_n 3, 1), (63, .iconst 1, 1), (64, .invokevirtual 129, 3), (67, .ifCond .ne 5, 3), (70, .iconst (-1), 1), (71, .ireturn, 1), (72, .aload_n 0, 1), (73, .getfield 29, 3), (76, .iload_n 2, 1), (77, .iconst 1, 1), (78, .bastore, 1), (79, .goto 5, 3), (82, .iload_n 2, 1), (83, .ireturn, 1), (84, .iinc 1 1, 3), (87, .goto (-85), 3), (90, .iconst (-1), 1), (91, .ireturn, 1)], 4, 2, 34)
def cm34 : Me := ("lruFree", "()I", 0, 1, [(0, .iconst (-1), 1), (1, .istore_n 1, 1), (2, .iconst 0, 1), (3, .istore_n 2, 1), (4, .iload_n 2, 1), (5, .aload_n 0, 1), (6, .getfield 67, 3), (9, .if_icmp .ge 48, 3), (12, .aload_n 0, 1), (13, .getfield 29, 3), (16, .iload_n 2, 1), (17, .baload, 1), (18, .ifCond .ne 33, 3), (21, .aload_n 0, 1), (22, .getfield 32, 3), (25, .iload_n 2, 1), (26, .baload, 1), (27, .ifCond .ne 24, 3), (30, .iload_n 1, 1), (31, .ifCond .lt 18, 3), (34, .aload_n 0, 1), (35, .getfield 35, 3), (38, .iload_n 2, 1), (39, .iaload, 1), (40, .aload_n 0, 1), (41, .getfield 35, 3), (44, .iload_n 1, 1), (45, .iaload, 1), (46, .if_icmp .ge 5, 3), (49, .iload_n 2, 1), (50, .istore_n 1, 1), (51, .iinc 2 1, 3), (54, .goto (-50), 3), (57, .iload_n 1, 1), (58, .ireturn, 1)], 3, 0, 0)
def cm35 : Me := ("waitBuffer", "(II)V", 2, 0, [(0, .aload_n 0, 1), (1, .iload_n 2, 1), (2, .invokevirtual 140, 3), (5, .ifCond .ne 4, 3), (8, .return_, 1), (9, .iload_n 1, 1), (10, .ifCond .lt 15, 3), (13, .iload_n 1, 1), (14, .aload_n 0, 1), (15, .getfield 70, 3), (18, .if_icmp .ge 7, 3), (21, .iconst 1, 1), (22, .goto 4, 3), (25, .iconst 0, 1), (26, .istore_n 3, 1), (27, .iload_n 3, 1), (28, .ifCond .eq 19, 3), (31, .aload_n 0, 1), (32, .getfield 29, 3), (35, .iload_n 2, 1), (36, .baload, 1), (37, .ifCond .eq 10, 3), (40, .aload_n 0, 1), (41, .getfield 56, 3), (44, .iload_n 1, 1), (45, .iload_n 2, 1), (46, .iastore, 1), (47, .iconst 0, 1), (48, .istore 4, 2), (50, .iload 4, 2), (52, .bipush 64, 2), (54, .if_icmp .ge 31, 3), (57, .aload_n 0, 1), (58, .getfield 29, 3), (61, .iload_n 2, 1), (62, .baload, 1), (63, .ifCond .ne 6, 3), (66, .goto 19, 3), (69, .aload_n 0, 1), (70, .invokevirtual 117, 3), (73, .ifCond .ne 6, 3), (76, .goto 9, 3), (79, .iinc 4 1, 3), (82, .goto (-32), 3), (85, .iload_n 3, 1), (86, .ifCond .eq 10, 3), (89, .aload_n 0, 1), (90, .getfield 56, 3), (93, .iload_n 1, 1), (94, .iconst (-1), 1), (95, .iastore, 1), (96, .return_, 1)], 5, 2, 34)
def cm36 : Me := ("enqueue", "(IIZ)Z", 3, 2, [(0, .aload_n 0, 1), (1, .getfield 76, 3), (4, .bipush 16, 2), (6, .if_icmp .lt 5, 3), (9, .iconst 0, 1), (10, .ireturn, 1), (11, .aload_n 0, 1), (12, .getfield 38, 3), (15, .aload_n 0, 1), (16, .getfield 76, 3), (19, .iload_n 1, 1), (20, .iastore, 1), (21, .aload_n 0, 1), (22, .getfield 41, 3), (25, .aload_n 0, 1), (26, .getfield 76, 3), (29, .iload_n 2, 1), (30, .iastore, 1), (31, .aload_n 0, 1), (32, .getfield 44, 3), (35, .aload_n 0, 1), (36, .getfield 76, 3), (39, .iload_n 3, 1), (40, .bastore, 1), (41, .aload_n 0, 1), (42, .aload_n 0, 1), (43, .getfield 76, 3), (46, .iconst 1, 1), (47, .iadd, 1), (48, .putfield 76, 3), (51, .iconst 1, 1), (52, .ireturn, 1)], 4, 0, 0)
def cm37 : Me := ("drain", "()V", 0, 0, [(0, .iconst 0, 1), (1, .istore_n 1, 1), (2, .iload_n 1, 1), (3, .bipush 64, 2), (5, .if_icmp .ge 19, 3), (8, .aload_n 0, 1), (9, .invokevirtual 117, 3), (12, .ifCond .ne 6, 3), (15, .goto 9, 3), (18, .iinc 1 1, 3), (21, .goto (-19), 3), (24, .return_, 1)], 2, 2, 34)
def cm38 : Me := ("pickNext", "()I", 0, 1, [(0, .iconst (-1), 1), (1, .istore_n 1, 1), (2, .iconst (-1), 1), (3, .istore_n 2, 1), (4, .iconst 0, 1), (5, .istore_n 3, 1), (6, .iload_n 3, 1), (7, .aload_n 0, 1), (8, .getfield 76, 3), (11, .if_icmp .ge 60, 3), (14, .aload_n 0, 1), (15, .getfield 41, 3), (18, .iload_n 3, 1), (19, .iaload, 1), (20, .istore 4, 2), (22, .iload 4, 2), (24, .aload_n 0, 1), (25, .getfield 79, 3), (28, .if_icmp .lt 20, 3), (31, .iload_n 1, 1), (32, .ifCond .lt 14, 3), (35, .iload 4, 2), (37, .aload_n 0, 1), (38, .getfield 41, 3), (41, .iload_n 1, 1), (42, .iaload, 1), (43, .if_icmp .ge 5, 3), (46, .iload_n 3, 1), (47, .istore_n 1, 1), (48, .iload_n 2, 1), (49, .ifCond .lt 14, 3), (52, .iload 4, 2), (54, .aload_n 0, 1), (55, .getfield 41, 3), (58, .iload_n 2, 1), (59, .iaload, 1), (60, .if_icmp .ge 5, 3), (63, .iload_n 3, 1), (64, .istore_n 2, 1), (65, .iinc 3 1, 3), (68, .goto (-62), 3), (71, .iload_n 1, 1), (72, .ifCond .lt 5, 3), (75, .iload_n 1, 1), (76, .ireturn, 1), (77, .iload_n 2, 1), (78, .ireturn, 1)], 5, 0, 0)
def cm39 : Me := ("removeAt", "(I)V", 1, 0, [(0, .iload_n 1, 1), (1, .istore_n 2, 1), (2, .iload_n 2, 1), (3, .iconst 1, 1), (4, .iadd, 1), (5, .aload_n 0, 1), (6, .getfield 76, 3), (9, .if_icmp .ge 51, 3), (12, .aload_n 0, 1), (13, .getfield 38, 3), (16, .iload_n 2, 1), (17, .aload_n 0, 1), (18, .getfield 38, 3), (21, .iload_n 2, 1), (22, .iconst 1, 1), (23, .iadd, 1), (24, .iaload, 1), (25, .iastore, 1), (26, .aload_n 0, 1), (27, .getfield 41, 3), (30, .iload_n 2, 1), (31, .aload_n 0, 1), (32, .getfield 41, 3), (35, .iload_n 2, 1), (36, .iconst 1, 1), (37, .iadd, 1), (38, .iaload, 1), (39, .iastore, 1), (40, .aload_n 0, 1), (41, .getfield 44, 3), (44, .iload_n 2, 1), (45, .aload_n 0, 1), (46, .getfield 44, 3), (49, .iload_n 2, 1), (50, .iconst 1, 1), (51, .iadd, 1), (52, .baload, 1), (53, .bastore, 1), (54, .iinc 2 1, 3), (57, .goto (-55), 3), (60, .aload_n 0, 1), (61, .aload_n 0, 1), (62, .getfield 76, 3), (65, .iconst 1, 1), (66, .isub, 1), (67, .putfield 76, 3), (70, .return_, 1)], 3, 0, 0)
def cm40 : Me := ("interrupt", "()Z", 0, 2, [(0, .aload_n 0, 1), (1, .invokevirtual 153, 3), (4, .istore_n 1, 1), (5, .iload_n 1, 1), (6, .ifCond .ge 5, 3), (9, .iconst 0, 1), (10, .ireturn, 1), (11, .aload_n 0, 1), (12, .getfield 38, 3), (15, .iload_n 1, 1), (16, .iaload, 1), (17, .istore_n 2, 1), (18, .aload_n 0, 1), (19, .getfield 41, 3), (22, .iload_n 1, 1), (23, .iaload, 1), (24, .istore_n 3, 1), (25, .aload_n 0, 1), (26, .getfield 44, 3), (29, .iload_n 1, 1), (30, .baload, 1), (31, .istore 4, 2), (33, .aload_n 0, 1), (34, .iload_n 1, 1), (35, .invokevirtual 156, 3), (38, .aload_n 0, 1), (39, .iload_n 2, 1), (40, .invokevirtual 140, 3), (43, .ifCond .eq 13, 3), (46, .iload_n 3, 1), (47, .ifCond .lt 9, 3), (50, .iload_n 3, 1), (51, .bipush 32, 2), (53, .if_icmp .lt 5, 3), (56, .iconst 1, 1), (57, .ireturn, 1), (58, .aload_n 0, 1), (59, .iload_n 2, 1), (60, .iload_n 3, 1), (61, .iload 4, 2), (63, .invokevirtual 159, 3), (66, .aload_n 0, 1), (67, .iload_n 3, 1), (68, .putfield 79, 3), (71, .aload_n 0, 1), (72, .getfield 29, 3), (75, .iload_n 2, 1), (76, .iconst 0, 1), (77, .bastore, 1), (78, .aload_n 0, 1), (79, .iload_n 2, 1), (80, .invokevirtual 163, 3), (83, .iconst 1, 1), (84, .ireturn, 1)], 5, 1, 18)
def cm41 : Me := ("transfer", "(IIZ)V", 3, 0, [(0, .iload_n 1, 1), (1, .iconst 4, 1), (2, .imul, 1), (3, .istore 4, 2), (5, .iload_n 2, 1), (6, .iconst 4, 1), (7, .imul, 1), (8, .istore 5, 2), (10, .iload_n 3, 1), (11, .ifCond .eq 48, 3), (14, .iconst 0, 1), (15, .istore 6, 2), (17, .iload 6, 2), (19, .iconst 4, 1), (20, .if_icmp .ge 29, 3), (23, .aload_n 0, 1), (24, .getfield 7, 3), (27, .iload 5, 2), (29, .iload 6, 2), (31, .iadd, 1), (32, .aload_n 0, 1), (33, .getfield 17, 3), (36, .iload 4, 2), (38, .iload 6, 2), (40, .iadd, 1), (41, .iaload, 1), (42, .iastore, 1), (43, .iinc 6 1, 3), (46, .goto (-29), 3), (49, .aload_n 0, 1), (50, .getfield 26, 3), (53, .iload_n 1, 1), (54, .iconst 0, 1), (55, .bastore, 1), (56, .goto 52, 3), (59, .iconst 0, 1), (60, .istore 6, 2), (62, .iload 6, 2), (64, .iconst 4, 1), (65, .if_icmp .ge 29, 3), (68, .aload_n 0, 1), (69, .getfield 17, 3), (72, .iload 4, 2), (74, .iload 6, 2), (76, .iadd, 1), (77, .aload_n 0, 1), (78, .getfield 7, 3), (81, .iload 5, 2), (83, .iload 6, 2), (85, .iadd, 1), (86, .iaload, 1), (87, .iastore, 1), (88, .iinc 6 1, 3), (91, .goto (-29), 3), (94, .aload_n 0, 1), (95, .getfield 23, 3), (98, .iload_n 1, 1), (99, .iconst 1, 1), (100, .bastore, 1), (101, .aload_n 0, 1), (102, .getfield 26, 3), (105, .iload_n 1, 1), (106, .iconst 0, 1), (107, .bastore, 1), (108, .return_, 1)], 7, 0, 0)
def cm42 : Me := ("wake", "(I)V", 1, 0, [(0, .iconst 0, 1), (1, .istore_n 2, 1), (2, .iload_n 2, 1), (3, .aload_n 0, 1), (4, .getfield 70, 3), (7, .if_icmp .ge 26, 3), (10, .aload_n 0, 1), (11, .getfield 56, 3), (14, .iload_n 2, 1), (15, .iaload, 1), (16, .iload_n 1, 1), (17, .if_icmp .ne 10, 3), (20, .aload_n 0, 1), (21, .getfield 56, 3), (24, .iload_n 2, 1), (25, .iconst (-1), 1), (26, .iastore, 1), (27, .iinc 2 1, 3), (30, .goto (-28), 3), (33, .return_, 1)], 3, 0, 0)
def PP : Cl := ("BlockBufferCache", [(14, ("nBlocks", "I", 0, false)), (15, ("nBufs", "I", 0, false)), (16, ("nProcs", "I", 0, false)), (17, ("disk", "[I", 3, true)), (18, ("known", "[Z", 4, true)), (19, ("bufData", "[I", 5, true)), (20, ("bufBlock", "[I", 6, true)), (21, ("valid", "[Z", 7, true)), (22, ("dirty", "[Z", 8, true)), (23, ("busy", "[Z", 9, true)), (24, ("held", "[Z", 10, true)), (25, ("lastUse", "[I", 11, true)), (26, ("tick", "I", 0, false)), (27, ("qBuf", "[I", 12, true)), (28, ("qBlock", "[I", 13, true)), (29, ("qWrite", "[Z", 14, true)), (30, ("qLen", "I", 0, false)), (31, ("head", "I", 0, false)), (32, ("last", "[I", 15, true)), (33, ("reads", "[I", 16, true)), (34, ("writes", "[I", 17, true)), (35, ("waitBuf", "[I", 18, true))], [(0, 128), (1, 32), (0, 32), (0, 8), (1, 8), (1, 8), (1, 8), (1, 8), (0, 8), (0, 16), (0, 16), (1, 16), (0, 4), (0, 4), (0, 4), (0, 4)], [(7, 17), (13, 18), (17, 19), (20, 20), (23, 21), (26, 22), (29, 23), (32, 24), (35, 25), (38, 27), (41, 28), (44, 29), (47, 32), (50, 33), (53, 34), (56, 35), (63, 14), (67, 15), (70, 16), (73, 26), (76, 30), (79, 31)], [(59, 18), (82, 19), (86, 20), (89, 21), (92, 32), (96, 24), (99, 29), (104, 25), (108, 27), (111, 28), (114, 23), (117, 40), (121, 31), (125, 35), (129, 36), (133, 37), (136, 26), (140, 22), (143, 33), (147, 30), (150, 34), (153, 38), (156, 39), (159, 41), (163, 42)], [(103, .int (65535 : Int32))], [(0, cm0), (5, cm5), (6, cm6), (7, cm7), (8, cm8), (9, cm9), (10, cm10), (11, cm11), (12, cm12), (13, cm13), (14, cm14), (15, cm15), (16, cm16), (17, cm17), (18, cm18), (19, cm19), (20, cm20), (21, cm21), (22, cm22), (23, cm23), (24, cm24), (25, cm25), (26, cm26), (27, cm27), (28, cm28), (29, cm29), (30, cm30), (31, cm31), (32, cm32), (33, cm33), (34, cm34), (35, cm35), (36, cm36), (37, cm37), (38, cm38), (39, cm39), (40, cm40), (41, cm41), (42, cm42)], 1)
def lm0 : Me := ("law", "([I)Z", 1, 2, [(0, .iconst 0, 1), (1, .istore_n 1, 1), (2, .new 18, 3), (5, .dup, 1), (6, .bipush 8, 2), (8, .aload_n 0, 1), (9, .arraylength, 1), (10, .ifCond .le 9, 3), (13, .aload_n 0, 1), (14, .iconst 0, 1), (15, .iaload, 1), (16, .goto 4, 3), (19, .iconst 3, 1), (20, .iconst 2, 1), (21, .invokespecial 35, 3), (24, .astore_n 2, 1), (25, .lconst 0, 1), (26, .lstore_n 3, 1), (27, .lconst 0, 1), (28, .lstore 5, 2), (30, .lconst 0, 1), (31, .lstore 7, 2), (33, .lconst 0, 1), (34, .lstore 9, 2), (36, .iconst 0, 1), (37, .istore 11, 2), (39, .iconst 0, 1), (40, .istore 12, 2), (42, .iconst 0, 1), (43, .istore 13, 2), (45, .iconst 0, 1), (46, .istore 14, 2), (48, .iconst 0, 1), (49, .istore 15, 2), (51, .bipush (-5), 2), (53, .istore 16, 2), (55, .bipush (-5), 2), (57, .istore 17, 2), (59, .iconst 1, 1), (60, .istore 18, 2), (62, .iload 18, 2), (64, .iconst 4, 1), (65, .iadd, 1), (66, .aload_n 0, 1), (67, .arraylength, 1), (68, .if_icmp .ge 683, 3), (71, .iload 18, 2), (73, .bipush 81, 2), (75, .if_icmp .ge 676, 3), (78, .aload_n 0, 1), (79, .iload 18, 2), (81, .iaload, 1), (82, .bipush 7, 2), (84, .iand, 1), (85, .istore 19, 2), (87, .aload_n 0, 1), (88, .iload 18, 2), (90, .iconst 1, 1), (91, .iadd, 1), (92, .iaload, 1), (93, .iconst 1, 1), (94, .iand, 1), (95, .istore 20, 2), (97, .aload_n 0, 1), (98, .iload 18, 2), (100, .iconst 2, 1), (101, .iadd, 1), (102, .iaload, 1), (103, .iconst 3, 1), (104, .iand, 1), (105, .istore 21, 2), (107, .aload_n 0, 1), (108, .iload 18, 2), (110, .iconst 3, 1), (111, .iadd, 1), (112, .iaload, 1), (113, .iconst 3, 1), (114, .iand, 1), (115, .istore 22, 2), (117, .aload_n 0, 1), (118, .iload 18, 2), (120, .iconst 4, 1), (121, .iadd, 1), (122, .iaload, 1), (123, .istore 23, 2), (125, .aload_n 0, 1), (126, .iload 18, 2), (128, .iconst 1, 1), (129, .iadd, 1), (130, .iaload, 1), (131, .bipush 14, 2), (133, .iand, 1), (134, .bipush 14, 2), (136, .if_icmp .ne 6, 3), (139, .iconst 2, 1), (140, .istore 20, 2), (142, .aload_n 0, 1), (143, .iload 18, 2), (145, .iconst 2, 1), (146, .iadd, 1), (147, .iaload, 1), (148, .bipush 28, 2), (150, .iand, 1), (151, .bipush 28, 2), (153, .if_icmp .ne 10, 3), (156, .iload 21, 2), (158, .bipush 8, 2), (160, .iadd, 1), (161, .istore 21, 2), (163, .iload 22, 2), (165, .istore 24, 2), (167, .aload_n 0, 1), (168, .iload 18, 2), (170, .iconst 3, 1), (171, .iadd, 1), (172, .iaload, 1), (173, .bipush 28, 2), (175, .iand, 1), (176, .bipush 28, 2), (178, .if_icmp .ne 13, 3), (181, .iload 22, 2), (183, .bipush 8, 2), (185, .iadd, 1), (186, .istore 22, 2), (188, .iconst 4, 1), (189, .istore 24, 2), (191, .iload 20, 2), (193, .iconst 2, 1), (194, .if_icmp .ne 8, 3), (197, .bipush (-2), 2), (199, .goto 15, 3), (202, .iload 21, 2), (204, .iconst 3, 1), (205, .if_icmp .le 8, 3), (208, .bipush (-3), 2), (210, .goto 4, 3), (213, .iload_n 1, 1), (214, .istore 25, 2), (216, .lload_n 3, 1), (217, .lload 5, 2), (219, .lload 7, 2), (221, .lload 9, 2), (223, .iload 21, 2), (225, .invokestatic 11, 3), (228, .lstore 26, 2), (230, .iconst (-1), 1), (231, .istore 28, 2), (233, .iload_n 1, 1), (234, .istore 29, 2), (236, .iload 19, 2), (238, .ifCond .ne 71, 3), (241, .iload 25, 2), (243, .iload_n 1, 1), (244, .if_icmp .ne 13, 3), (247, .iload 24, 2), (249, .iconst 3, 1), (250, .if_icmp .le 7, 3), (253, .bipush (-4), 2), (255, .istore 25, 2), (257, .aload_n 2, 1), (258, .iload 20, 2), (260, .iload 21, 2), (262, .iload 24, 2), (264, .invokevirtual 38, 3), (267, .istore 29, 2), (269, .iload 25, 2), (271, .iload_n 1, 1), (272, .if_icmp .ne 303, 3), (275, .lload 26, 2), (277, .iload 24, 2), (279, .invokestatic 23, 3), (282, .istore 25, 2), (284, .iload 20, 2), (286, .ifCond .ne 13, 3), (289, .iload 25, 2), (291, .istore 16, 2), (293, .iinc 12 1, 3), (296, .goto 279, 3), (299, .iload 25, 2), (301, .istore 17, 2), (303, .iinc 13 1, 3), (306, .goto 269, 3), (309, .iload 19, 2), (311, .iconst 1, 1), (312, .if_icmp .eq 10, 3), (315, .iload 19, 2), (317, .bipush 7, 2), (319, .if_icmp .ne 57, 3), (322, .iload 25, 2), (324, .iload_n 1, 1), (325, .if_icmp .ne 13, 3), (328, .iload 24, 2), (330, .iconst 3, 1), (331, .if_icmp .le 7, 3), (334, .bipush (-4), 2), (336, .istore 25, 2), (338, .aload_n 2, 1), (339, .iload 20, 2), (341, .iload 21, 2), (343, .iload 24, 2), (345, .iload 23, 2), (347, .invokevirtual 42, 3), (350, .istore 29, 2), (352, .iload 25, 2), (354, .iload_n 1, 1), (355, .if_icmp .ne 220, 3), (358, .lload 26, 2), (360, .iload 24, 2), (362, .iload 23, 2), (364, .invokestatic 46, 3), (367, .lstore 26, 2), (369, .iload 21, 2), (371, .istore 28, 2), (373, .goto 202, 3), (376, .iload 19, 2), (378, .iconst 2, 1), (379, .if_icmp .ne 59, 3), (382, .aload_n 2, 1), (383, .iload 20, 2), (385, .iload 21, 2), (387, .iload 23, 2), (389, .invokevirtual 50, 3), (392, .istore 29, 2), (394, .iload 23, 2), (396, .i2l, 1), (397, .ldc2_w 7, 3), (400, .land, 1), (401, .lstore 30, 2), (403, .iload 25, 2), (405, .iload_n 1, 1), (406, .if_icmp .ne 29, 3), (409, .lload 30, 2), (411, .lload 30, 2), (413, .bipush 16, 2), (415, .lshl, 1), (416, .lor, 1), (417, .lload 30, 2), (419, .bipush 32, 2), (421, .lshl, 1), (422, .lor, 1), (423, .lload 30, 2), (425, .bipush 48, 2), (427, .lshl, 1), (428, .lor, 1), (429, .lstore 26, 2), (431, .iload 21, 2), (433, .istore 28, 2), (435, .goto 140, 3), (438, .iload 19, 2), (440, .iconst 3, 1), (441, .if_icmp .ne 58, 3), (444, .iload 25, 2), (446, .iload_n 1, 1), (447, .if_icmp .ne 13, 3), (450, .iload 22, 2), (452, .iconst 3, 1), (453, .if_icmp .le 7, 3), (456, .bipush (-3), 2), (458, .istore 25, 2), (460, .aload_n 2, 1), (461, .iload 20, 2), (463, .iload 21, 2), (465, .iload 22, 2), (467, .invokevirtual 53, 3), (470, .istore 29, 2), (472, .iload 25, 2), (474, .iload_n 1, 1), (475, .if_icmp .ne 100, 3), (478, .iload 22, 2), (480, .istore 28, 2), (482, .iload 20, 2), (484, .ifCond .ne 9, 3), (487, .iinc 12 1, 3), (490, .goto 85, 3), (493, .iinc 13 1, 3), (496, .goto 79, 3), (499, .iload 19, 2), (501, .iconst 4, 1), (502, .if_icmp .ne 15, 3), (505, .aload_n 2, 1), (506, .iload 23, 2), (508, .invokevirtual 56, 3), (511, .iload_n 1, 1), (512, .istore 25, 2), (514, .goto 61, 3), (517, .iload 19, 2), (519, .iconst 5, 1), (520, .if_icmp .ne 45, 3), (523, .iload 21, 2), (525, .iconst 3, 1), (526, .if_icmp .le 8, 3), (529, .bipush (-3), 2), (531, .goto 4, 3), (534, .iload_n 1, 1), (535, .istore 25, 2), (537, .aload_n 2, 1), (538, .iload 21, 2), (540, .invokevirtual 60, 3), (543, .istore 29, 2), (545, .iload 25, 2), (547, .iload_n 1, 1), (548, .if_icmp .ne 27, 3), (551, .iload 11, 2), (553, .iconst 1, 1), (554, .iload 21, 2), (556, .ishl, 1), (557, .iconst (-1), 1), (558, .ixor, 1), (559, .iand, 1), (560, .istore 11, 2), (562, .goto 13, 3), (565, .aload_n 2, 1), (566, .invokevirtual 63, 3), (569, .iload_n 1, 1), (570, .istore 25, 2), (572, .iconst 0, 1), (573, .istore 11, 2), (575, .iload 29, 2), (577, .iload 25, 2), (579, .if_icmp .eq 5, 3), (582, .iconst 0, 1), (583, .ireturn, 1), (584, .iload 28, 2), (586, .ifCond .lt 67, 3), (589, .iload 11, 2), (591, .iconst 1, 1), (592, .iload 28, 2), (594, .ishl, 1), (595, .ior, 1), (596, .istore 11, 2), (598, .iload 20, 2), (600, .ifCond .ne 9, 3), (603, .iinc 14 1, 3), (606, .goto 6, 3), (609, .iinc 15 1, 3), (612, .iload 28, 2), (614, .ifCond .ne 9, 3), (617, .lload 26, 2), (619, .lstore_n 3, 1), (620, .goto 33, 3), (623, .iload 28, 2), (625, .iconst 1, 1), (626, .if_icmp .ne 10, 3), (629, .lload 26, 2), (631, .lstore 5, 2), (633, .goto 20, 3), (636, .iload 28, 2), (638, .iconst 2, 1), (639, .if_icmp .ne 10, 3), (642, .lload 26, 2), (644, .lstore 7, 2), (646, .goto 7, 3), (649, .lload 26, 2), (651, .lstore 9, 2), (653, .aload_n 2, 1), (654, .lload_n 3, 1), (655, .lload 5, 2), (657, .lload 7, 2), (659, .lload 9, 2), (661, .iload 11, 2), (663, .invokestatic 66, 3), (666, .ifCond .ne 5, 3), (669, .iconst 0, 1), (670, .ireturn, 1), (671, .aload_n 2, 1), (672, .iconst 0, 1), (673, .invokevirtual 70, 3), (676, .iload 12, 2), (678, .if_icmp .ne 33, 3), (681, .aload_n 2, 1), (682, .iconst 1, 1), (683, .invokevirtual 70, 3), (686, .iload 13, 2), (688, .if_icmp .ne 23, 3), (691, .aload_n 2, 1), (692, .iconst 0, 1), (693, .invokevirtual 73, 3), (696, .iload 14, 2), (698, .if_icmp .ne 13, 3), (701, .aload_n 2, 1), (702, .iconst 1, 1), (703, .invokevirtual 73, 3), (706, .iload 15, 2), (708, .if_icmp .eq 5, 3), (711, .iconst 0, 1), (712, .ireturn, 1), (713, .aload_n 2, 1), (714, .iconst 0, 1), (715, .invokevirtual 76, 3), (718, .iload 16, 2), (720, .if_icmp .ne 23, 3), (723, .aload_n 2, 1), (724, .iconst 1, 1), (725, .invokevirtual 76, 3), (728, .iload 17, 2), (730, .if_icmp .ne 13, 3), (733, .aload_n 2, 1), (734, .iconst 2, 1), (735, .invokevirtual 76, 3), (738, .bipush (-2), 2), (740, .if_icmp .eq 5, 3), (743, .iconst 0, 1), (744, .ireturn, 1), (745, .iinc 18 5, 3), (748, .goto (-686), 3), (751, .iconst 1, 1), (752, .ireturn, 1)], 32, 9, 224)
def lm2 : Me := ("get", "(JI)I", 2, 1, [(0, .lload_n 0, 1), (1, .bipush 16, 2), (3, .iload_n 2, 1), (4, .imul, 1), (5, .lushr, 1), (6, .ldc2_w 7, 3), (9, .land, 1), (10, .l2i, 1), (11, .ireturn, 1)], 3, 0, 0)
def lm3 : Me := ("put", "(JII)J", 3, 3, [(0, .lload_n 0, 1), (1, .ldc2_w 7, 3), (4, .bipush 16, 2), (6, .iload_n 2, 1), (7, .imul, 1), (8, .lshl, 1), (9, .ldc2_w 9, 3), (12, .lxor, 1), (13, .land, 1), (14, .iload_n 3, 1), (15, .i2l, 1), (16, .ldc2_w 7, 3), (19, .land, 1), (20, .bipush 16, 2), (22, .iload_n 2, 1), (23, .imul, 1), (24, .lshl, 1), (25, .lor, 1), (26, .lreturn, 1)], 4, 0, 0)
def lm4 : Me := ("pick", "(JJJJI)J", 5, 3, [(0, .iload 8, 2), (2, .ifCond .ne 7, 3), (5, .lload_n 0, 1), (6, .goto 26, 3), (9, .iload 8, 2), (11, .iconst 1, 1), (12, .if_icmp .ne 7, 3), (15, .lload_n 2, 1), (16, .goto 16, 3), (19, .iload 8, 2), (21, .iconst 2, 1), (22, .if_icmp .ne 8, 3), (25, .lload 4, 2), (27, .goto 5, 3), (30, .lload 6, 2), (32, .lreturn, 1)], 9, 0, 0)
def lm5 : Me := ("agree", "(LBlockBufferCache;JJJJI)Z", 6, 2, [(0, .iconst 0, 1), (1, .istore 10, 2), (3, .iconst 0, 1), (4, .istore 11, 2), (6, .iload 11, 2), (8, .iconst 4, 1), (9, .if_icmp .ge 134, 3), (12, .lload_n 1, 1), (13, .lload_n 3, 1), (14, .lload 5, 2), (16, .lload 7, 2), (18, .iload 11, 2), (20, .invokestatic 11, 3), (23, .lstore 12, 2), (25, .iload 9, 2), (27, .iload 11, 2), (29, .ishr, 1), (30, .iconst 1, 1), (31, .iand, 1), (32, .iconst 1, 1), (33, .if_icmp .ne 7, 3), (36, .iconst 1, 1), (37, .goto 4, 3), (40, .iconst 0, 1), (41, .istore 14, 2), (43, .iload 14, 2), (45, .ifCond .eq 6, 3), (48, .iinc 10 1, 3), (51, .aload_n 0, 1), (52, .iload 11, 2), (54, .invokevirtual 17, 3), (57, .lload 12, 2), (59, .iconst 0, 1), (60, .invokestatic 23, 3), (63, .lload 12, 2), (65, .iconst 1, 1), (66, .invokestatic 23, 3), (69, .iadd, 1), (70, .lload 12, 2), (72, .iconst 2, 1), (73, .invokestatic 23, 3), (76, .iadd, 1), (77, .lload 12, 2), (79, .iconst 3, 1), (80, .invokestatic 23, 3), (83, .iadd, 1), (84, .if_icmp .eq 5, 3), (87, .iconst 0, 1), (88, .ireturn, 1), (89, .iconst 0, 1), (90, .istore 15, 2), (92, .iload 15, 2), (94, .iconst 4, 1), (95, .if_icmp .ge 42, 3), (98, .iload 14, 2), (100, .ifCond .eq 7, 3), (103, .iconst (-1), 1), (104, .goto 10, 3), (107, .lload 12, 2), (109, .iload 15, 2), (111, .invokestatic 23, 3), (114, .istore 16, 2), (116, .aload_n 0, 1), (117, .iload 11, 2), (119, .iload 15, 2), (121, .invokevirtual 27, 3), (124, .iload 16, 2), (126, .if_icmp .eq 5, 3), (129, .iconst 0, 1), (130, .ireturn, 1), (131, .iinc 15 1, 3), (134, .goto (-42), 3), (137, .iinc 11 1, 3), (140, .goto (-134), 3), (143, .aload_n 0, 1), (144, .invokevirtual 31, 3), (147, .iload 10, 2), (149, .if_icmp .ne 7, 3), (152, .iconst 1, 1), (153, .goto 4, 3), (156, .iconst 0, 1), (157, .ireturn, 1)], 17, 3, 45)
def QQ : Lw := ("BlockBufferCacheL6", [(11, 4), (23, 2), (46, 3), (66, 5)], [(17, 14), (27, 12), (31, 13), (38, 5), (42, 6), (50, 7), (53, 8), (56, 9), (60, 10), (63, 11), (70, 16), (73, 17), (76, 15)], 35, 18, 22, [(7, .long (65535 : Int64)), (9, .long (-1 : Int64))], [(0, lm0), (2, lm2), (3, lm3), (4, lm4), (5, lm5)], 48, 768)
set_option maxRecDepth 100000
set_option maxHeartbeats 1000000
theorem dk_c0 : chk prog_1_method_1_code cm0.cd = true := by decide +kernel
theorem dk_c18 : chk prog_1_method_18_code cm18.cd = true := by decide +kernel
theorem dk_l4 : chk method_4_code lm4.cd = true := by decide +kernel
theorem dk_c7 : chk prog_1_method_7_code cm7.cd = true := by decide +kernel
theorem dk_c19 : chk prog_1_method_19_code cm19.cd = true := by decide +kernel
theorem dk_c20 : chk prog_1_method_20_code cm20.cd = true := by decide +kernel
theorem dk_c32 : chk prog_1_method_32_code cm32.cd = true := by decide +kernel
theorem dk_c31 : chk prog_1_method_31_code cm31.cd = true := by decide +kernel
theorem dk_c33 : chk prog_1_method_33_code cm33.cd = true := by decide +kernel
theorem dk_c34 : chk prog_1_method_34_code cm34.cd = true := by decide +kernel
theorem dk_c30 : chk prog_1_method_30_code cm30.cd = true := by decide +kernel
theorem dk_c25 : chk prog_1_method_25_code cm25.cd = true := by decide +kernel
theorem dk_c22 : chk prog_1_method_22_code cm22.cd = true := by decide +kernel
theorem dk_c28 : chk prog_1_method_28_code cm28.cd = true := by decide +kernel
theorem dk_c29 : chk prog_1_method_29_code cm29.cd = true := by decide +kernel
theorem dk_l5 : chk method_5_code lm5.cd = true := by decide +kernel
theorem dk_c14 : chk prog_1_method_14_code cm14.cd = true := by decide +kernel
theorem dk_c26 : chk prog_1_method_26_code cm26.cd = true := by decide +kernel
theorem dk_l2 : chk method_2_code lm2.cd = true := by decide +kernel
theorem dk_c12 : chk prog_1_method_12_code cm12.cd = true := by decide +kernel
theorem dk_c21 : chk prog_1_method_21_code cm21.cd = true := by decide +kernel
theorem dk_c13 : chk prog_1_method_13_code cm13.cd = true := by decide +kernel
theorem dk_c16 : chk prog_1_method_16_code cm16.cd = true := by decide +kernel
theorem dk_c17 : chk prog_1_method_17_code cm17.cd = true := by decide +kernel
theorem dk_c15 : chk prog_1_method_15_code cm15.cd = true := by decide +kernel
theorem dk_c6 : chk prog_1_method_6_code cm6.cd = true := by decide +kernel
theorem dk_c36 : chk prog_1_method_36_code cm36.cd = true := by decide +kernel
theorem dk_c35 : chk prog_1_method_35_code cm35.cd = true := by decide +kernel
theorem dk_c40 : chk prog_1_method_40_code cm40.cd = true := by decide +kernel
theorem dk_c38 : chk prog_1_method_38_code cm38.cd = true := by decide +kernel
theorem dk_c39 : chk prog_1_method_39_code cm39.cd = true := by decide +kernel
theorem dk_c41 : chk prog_1_method_41_code cm41.cd = true := by decide +kernel
theorem dk_c42 : chk prog_1_method_42_code cm42.cd = true := by decide +kernel
theorem dk_c27 : chk prog_1_method_27_code cm27.cd = true := by decide +kernel
theorem dk_l3 : chk method_3_code lm3.cd = true := by decide +kernel
theorem dk_c5 : chk prog_1_method_5_code cm5.cd = true := by decide +kernel
theorem dk_c24 : chk prog_1_method_24_code cm24.cd = true := by decide +kernel
theorem dk_c9 : chk prog_1_method_9_code cm9.cd = true := by decide +kernel
theorem dk_c10 : chk prog_1_method_10_code cm10.cd = true := by decide +kernel
theorem dk_c8 : chk prog_1_method_8_code cm8.cd = true := by decide +kernel
theorem dk_c23 : chk prog_1_method_23_code cm23.cd = true := by decide +kernel
theorem dk_c11 : chk prog_1_method_11_code cm11.cd = true := by decide +kernel
theorem dk_c37 : chk prog_1_method_37_code cm37.cd = true := by decide +kernel
theorem chk_ap {bytes : ByteArray} : ∀ (x y : Cd), chk bytes x = true → chk bytes y = true → chk bytes (x ++ y) = true
  | [], y, _, h => h
  | (pc, i, n) :: r, y, h, k => by
    simp only [List.cons_append, chk, Bool.and_eq_true] at h ⊢
    exact ⟨h.1, chk_ap r y h.2 k⟩
theorem chk_td {bytes : ByteArray} {l : Cd} (n : Nat) (h : chk bytes (l.take n) = true) (k : chk bytes (l.drop n) = true) : chk bytes l = true := by
  have := chk_ap _ _ h k
  rwa [List.take_append_drop] at this
theorem dk_l0_0 : chk code (lm0.cd.take 80) = true := by decide +kernel
theorem dk_l0_1 : chk code ((lm0.cd.drop 80).take 80) = true := by decide +kernel
theorem dk_l0_2 : chk code (((lm0.cd.drop 80).drop 80).take 80) = true := by decide +kernel
theorem dk_l0_3 : chk code ((((lm0.cd.drop 80).drop 80).drop 80).take 80) = true := by decide +kernel
theorem dk_l0_4 : chk code (((((lm0.cd.drop 80).drop 80).drop 80).drop 80).take 80) = true := by decide +kernel
theorem dk_l0_5 : chk code (((((lm0.cd.drop 80).drop 80).drop 80).drop 80).drop 80) = true := by decide +kernel
theorem dk_l0 : chk code lm0.cd = true := (chk_td 80 dk_l0_0 (chk_td 80 dk_l0_1 (chk_td 80 dk_l0_2 (chk_td 80 dk_l0_3 (chk_td 80 dk_l0_4 dk_l0_5)))))
theorem pk_c0 : parseMethodDescriptor "(III)V" = some ⟨[.int, .int, .int], none⟩ := by decide +kernel
theorem pk_c18 : parseMethodDescriptor "(III)I" = some ⟨[.int, .int, .int], some .int⟩ := by decide +kernel
theorem pk_l4 : parseMethodDescriptor "(JJJJI)J" = some ⟨[.long, .long, .long, .long, .int], some .long⟩ := by decide +kernel
theorem pk_c7 : parseMethodDescriptor "(III)I" = some ⟨[.int, .int, .int], some .int⟩ := by decide +kernel
theorem pk_c19 : parseMethodDescriptor "(I)Z" = some ⟨[.int], some .boolean⟩ := by decide +kernel
theorem pk_c20 : parseMethodDescriptor "(I)Z" = some ⟨[.int], some .boolean⟩ := by decide +kernel
theorem pk_c32 : parseMethodDescriptor "(IIZ)I" = some ⟨[.int, .int, .boolean], some .int⟩ := by decide +kernel
theorem pk_c31 : parseMethodDescriptor "(I)I" = some ⟨[.int], some .int⟩ := by decide +kernel
theorem pk_c33 : parseMethodDescriptor "()I" = some ⟨[], some .int⟩ := by decide +kernel
theorem pk_c34 : parseMethodDescriptor "()I" = some ⟨[], some .int⟩ := by decide +kernel
theorem pk_c30 : parseMethodDescriptor "(I)V" = some ⟨[.int], none⟩ := by decide +kernel
theorem pk_c25 : parseMethodDescriptor "(IIII)V" = some ⟨[.int, .int, .int, .int], none⟩ := by decide +kernel
theorem pk_c22 : parseMethodDescriptor "(I)Z" = some ⟨[.int], some .boolean⟩ := by decide +kernel
theorem pk_c28 : parseMethodDescriptor "(I)V" = some ⟨[.int], none⟩ := by decide +kernel
theorem pk_c29 : parseMethodDescriptor "(I)V" = some ⟨[.int], none⟩ := by decide +kernel
theorem pk_l5 : parseMethodDescriptor "(LBlockBufferCache;JJJJI)Z" = some ⟨[.object "BlockBufferCache", .long, .long, .long, .long, .int], some .boolean⟩ := by decide +kernel
theorem pk_c14 : parseMethodDescriptor "(I)I" = some ⟨[.int], some .int⟩ := by decide +kernel
theorem pk_c26 : parseMethodDescriptor "(II)I" = some ⟨[.int, .int], some .int⟩ := by decide +kernel
theorem pk_l2 : parseMethodDescriptor "(JI)I" = some ⟨[.long, .int], some .int⟩ := by decide +kernel
theorem pk_c12 : parseMethodDescriptor "(II)I" = some ⟨[.int, .int], some .int⟩ := by decide +kernel
theorem pk_c21 : parseMethodDescriptor "(I)Z" = some ⟨[.int], some .boolean⟩ := by decide +kernel
theorem pk_c13 : parseMethodDescriptor "()I" = some ⟨[], some .int⟩ := by decide +kernel
theorem pk_c16 : parseMethodDescriptor "(I)I" = some ⟨[.int], some .int⟩ := by decide +kernel
theorem pk_c17 : parseMethodDescriptor "(I)I" = some ⟨[.int], some .int⟩ := by decide +kernel
theorem pk_c15 : parseMethodDescriptor "(I)I" = some ⟨[.int], some .int⟩ := by decide +kernel
theorem pk_c6 : parseMethodDescriptor "(IIII)I" = some ⟨[.int, .int, .int, .int], some .int⟩ := by decide +kernel
theorem pk_c36 : parseMethodDescriptor "(IIZ)Z" = some ⟨[.int, .int, .boolean], some .boolean⟩ := by decide +kernel
theorem pk_c35 : parseMethodDescriptor "(II)V" = some ⟨[.int, .int], none⟩ := by decide +kernel
theorem pk_c40 : parseMethodDescriptor "()Z" = some ⟨[], some .boolean⟩ := by decide +kernel
theorem pk_c38 : parseMethodDescriptor "()I" = some ⟨[], some .int⟩ := by decide +kernel
theorem pk_c39 : parseMethodDescriptor "(I)V" = some ⟨[.int], none⟩ := by decide +kernel
theorem pk_c41 : parseMethodDescriptor "(IIZ)V" = some ⟨[.int, .int, .boolean], none⟩ := by decide +kernel
theorem pk_c42 : parseMethodDescriptor "(I)V" = some ⟨[.int], none⟩ := by decide +kernel
theorem pk_c27 : parseMethodDescriptor "(I)V" = some ⟨[.int], none⟩ := by decide +kernel
theorem pk_l3 : parseMethodDescriptor "(JII)J" = some ⟨[.long, .int, .int], some .long⟩ := by decide +kernel
theorem pk_c5 : parseMethodDescriptor "(III)I" = some ⟨[.int, .int, .int], some .int⟩ := by decide +kernel
theorem pk_c24 : parseMethodDescriptor "(III)I" = some ⟨[.int, .int, .int], some .int⟩ := by decide +kernel
theorem pk_c9 : parseMethodDescriptor "(I)V" = some ⟨[.int], none⟩ := by decide +kernel
theorem pk_c10 : parseMethodDescriptor "(I)I" = some ⟨[.int], some .int⟩ := by decide +kernel
theorem pk_c8 : parseMethodDescriptor "(III)I" = some ⟨[.int, .int, .int], some .int⟩ := by decide +kernel
theorem pk_c23 : parseMethodDescriptor "(IIII)V" = some ⟨[.int, .int, .int, .int], none⟩ := by decide +kernel
theorem pk_c11 : parseMethodDescriptor "()V" = some ⟨[], none⟩ := by decide +kernel
theorem pk_c37 : parseMethodDescriptor "()V" = some ⟨[], none⟩ := by decide +kernel
theorem lkC (Z : State) (a0 : Array Value) (hw : ∀ d ∈ tables_1, d.before a0 Z = true) : LinkC PP Z a0 :=
  ⟨⟨⟨22, (hw _ (List.mem_of_getElem? (i := 1) rfl))⟩, (hw _ (List.mem_of_getElem? (i := 2) rfl))⟩,
   asc_all (⟨by intro z h; obtain rfl : ("disk", "[I", 3, true) = z := Option.some.inj h; exact (hw _ (List.mem_of_getElem? (i := 10) rfl)), by intro z h; obtain rfl : ("known", "[Z", 4, true) = z := Option.some.inj h; exact (hw _ (List.mem_of_getElem? (i := 13) rfl)), by intro z h; obtain rfl : ("bufData", "[I", 5, true) = z := Option.some.inj h; exact (hw _ (List.mem_of_getElem? (i := 15) rfl)), by intro z h; obtain rfl : ("bufBlock", "[I", 6, true) = z := Option.some.inj h; exact (hw _ (List.mem_of_getElem? (i := 17) rfl)), by intro z h; obtain rfl : ("valid", "[Z", 7, true) = z := Option.some.inj h; exact (hw _ (List.mem_of_getElem? (i := 19) rfl)), by intro z h; obtain rfl : ("dirty", "[Z", 8, true) = z := Option.some.inj h; exact (hw _ (List.mem_of_getElem? (i := 21) rfl)), by intro z h; obtain rfl : ("busy", "[Z", 9, true) = z := Option.some.inj h; exact (hw _ (List.mem_of_getElem? (i := 23) rfl)), by intro z h; obtain rfl : ("held", "[Z", 10, true) = z := Option.some.inj h; exact (hw _ (List.mem_of_getElem? (i := 25) rfl)), by intro z h; obtain rfl : ("lastUse", "[I", 11, true) = z := Option.some.inj h; exact (hw _ (List.mem_of_getElem? (i := 27) rfl)), by intro z h; obtain rfl : ("qBuf", "[I", 12, true) = z := Option.some.inj h; exact (hw _ (List.mem_of_getElem? (i := 29) rfl)), by intro z h; obtain rfl : ("qBlock", "[I", 13, true) = z := Option.some.inj h; exact (hw _ (List.mem_of_getElem? (i := 31) rfl)), by intro z h; obtain rfl : ("qWrite", "[Z", 14, true) = z := Option.some.inj h; exact (hw _ (List.mem_of_getElem? (i := 33) rfl)), by intro z h; obtain rfl : ("last", "[I", 15, true) = z := Option.some.inj h; exact (hw _ (List.mem_of_getElem? (i := 35) rfl)), by intro z h; obtain rfl : ("reads", "[I", 16, true) = z := Option.some.inj h; exact (hw _ (List.mem_of_getElem? (i := 37) rfl)), by intro z h; obtain rfl : ("writes", "[I", 17, true) = z := Option.some.inj h; exact (hw _ (List.mem_of_getElem? (i := 39) rfl)), by intro z h; obtain rfl : ("waitBuf", "[I", 18, true) = z := Option.some.inj h; exact (hw _ (List.mem_of_getElem? (i := 41) rfl)), by intro z h; obtain rfl : ("nBlocks", "I", 0, false) = z := Option.some.inj h; exact (hw _ (List.mem_of_getElem? (i := 47) rfl)), by intro z h; obtain rfl : ("nBufs", "I", 0, false) = z := Option.some.inj h; exact (hw _ (List.mem_of_getElem? (i := 49) rfl)), by intro z h; obtain rfl : ("nProcs", "I", 0, false) = z := Option.some.inj h; exact (hw _ (List.mem_of_getElem? (i := 51) rfl)), by intro z h; obtain rfl : ("tick", "I", 0, false) = z := Option.some.inj h; exact (hw _ (List.mem_of_getElem? (i := 53) rfl)), by intro z h; obtain rfl : ("qLen", "I", 0, false) = z := Option.some.inj h; exact (hw _ (List.mem_of_getElem? (i := 55) rfl)), by intro z h; obtain rfl : ("head", "I", 0, false) = z := Option.some.inj h; exact (hw _ (List.mem_of_getElem? (i := 57) rfl)), trivial⟩),
   asc_all (⟨(hw _ (List.mem_of_getElem? (i := 48) rfl)), (hw _ (List.mem_of_getElem? (i := 50) rfl)), (hw _ (List.mem_of_getElem? (i := 52) rfl)), (hw _ (List.mem_of_getElem? (i := 11) rfl)), (hw _ (List.mem_of_getElem? (i := 14) rfl)), (hw _ (List.mem_of_getElem? (i := 16) rfl)), (hw _ (List.mem_of_getElem? (i := 18) rfl)), (hw _ (List.mem_of_getElem? (i := 20) rfl)), (hw _ (List.mem_of_getElem? (i := 22) rfl)), (hw _ (List.mem_of_getElem? (i := 24) rfl)), (hw _ (List.mem_of_getElem? (i := 26) rfl)), (hw _ (List.mem_of_getElem? (i := 28) rfl)), (hw _ (List.mem_of_getElem? (i := 54) rfl)), (hw _ (List.mem_of_getElem? (i := 30) rfl)), (hw _ (List.mem_of_getElem? (i := 32) rfl)), (hw _ (List.mem_of_getElem? (i := 34) rfl)), (hw _ (List.mem_of_getElem? (i := 56) rfl)), (hw _ (List.mem_of_getElem? (i := 58) rfl)), (hw _ (List.mem_of_getElem? (i := 36) rfl)), (hw _ (List.mem_of_getElem? (i := 38) rfl)), (hw _ (List.mem_of_getElem? (i := 40) rfl)), (hw _ (List.mem_of_getElem? (i := 42) rfl)), trivial⟩),
   asc_all (⟨(by decide +kernel), (by decide +kernel), (by decide +kernel), (by decide +kernel), (by decide +kernel), (by decide +kernel), (by decide +kernel), (by decide +kernel), (by decide +kernel), (by decide +kernel), (by decide +kernel), (by decide +kernel), (by decide +kernel), (by decide +kernel), (by decide +kernel), (by decide +kernel), (by decide +kernel), (by decide +kernel), (by decide +kernel), (by decide +kernel), (by decide +kernel), (by decide +kernel), trivial⟩),
   dst_ok (by decide +kernel),
   lst_all (⟨⟨by decide, (hw _ (List.mem_of_getElem? (i := 9) rfl))⟩, ⟨by decide, (hw _ (List.mem_of_getElem? (i := 12) rfl))⟩, ⟨by decide, (hw _ (List.mem_of_getElem? (i := 9) rfl))⟩, ⟨by decide, (hw _ (List.mem_of_getElem? (i := 9) rfl))⟩, ⟨by decide, (hw _ (List.mem_of_getElem? (i := 12) rfl))⟩, ⟨by decide, (hw _ (List.mem_of_getElem? (i := 12) rfl))⟩, ⟨by decide, (hw _ (List.mem_of_getElem? (i := 12) rfl))⟩, ⟨by decide, (hw _ (List.mem_of_getElem? (i := 12) rfl))⟩, ⟨by decide, (hw _ (List.mem_of_getElem? (i := 9) rfl))⟩, ⟨by decide, (hw _ (List.mem_of_getElem? (i := 9) rfl))⟩, ⟨by decide, (hw _ (List.mem_of_getElem? (i := 9) rfl))⟩, ⟨by decide, (hw _ (List.mem_of_getElem? (i := 12) rfl))⟩, ⟨by decide, (hw _ (List.mem_of_getElem? (i := 9) rfl))⟩, ⟨by decide, (hw _ (List.mem_of_getElem? (i := 9) rfl))⟩, ⟨by decide, (hw _ (List.mem_of_getElem? (i := 9) rfl))⟩, ⟨by decide, (hw _ (List.mem_of_getElem? (i := 9) rfl))⟩, trivial⟩),
   asc_all (⟨(hw _ (List.mem_of_getElem? (i := 76) rfl)), trivial⟩),
   ⟨(hw _ (List.mem_of_getElem? (i := 6) rfl)), (hw _ (List.mem_of_getElem? (i := 7) rfl)), (hw _ (List.mem_of_getElem? (i := 8) rfl))⟩,
   asc_all (⟨⟨prog_1_method_1_code, [.int, .int, .int], (hw _ (List.mem_of_getElem? (i := 5) rfl)), chk_ok dk_c0, pk_c0, rfl⟩, ⟨prog_1_method_5_code, [.int, .int, .int], (hw _ (List.mem_of_getElem? (i := 203) rfl)), chk_ok dk_c5, pk_c5, rfl⟩, ⟨prog_1_method_6_code, [.int, .int, .int, .int], (hw _ (List.mem_of_getElem? (i := 162) rfl)), chk_ok dk_c6, pk_c6, rfl⟩, ⟨prog_1_method_7_code, [.int, .int, .int], (hw _ (List.mem_of_getElem? (i := 67) rfl)), chk_ok dk_c7, pk_c7, rfl⟩, ⟨prog_1_method_8_code, [.int, .int, .int], (hw _ (List.mem_of_getElem? (i := 222) rfl)), chk_ok dk_c8, pk_c8, rfl⟩, ⟨prog_1_method_9_code, [.int], (hw _ (List.mem_of_getElem? (i := 212) rfl)), chk_ok dk_c9, pk_c9, rfl⟩, ⟨prog_1_method_10_code, [.int], (hw _ (List.mem_of_getElem? (i := 217) rfl)), chk_ok dk_c10, pk_c10, rfl⟩, ⟨prog_1_method_11_code, [], (hw _ (List.mem_of_getElem? (i := 231) rfl)), chk_ok dk_c11, pk_c11, rfl⟩, ⟨prog_1_method_12_code, [.int, .int], (hw _ (List.mem_of_getElem? (i := 133) rfl)), chk_ok dk_c12, pk_c12, rfl⟩, ⟨prog_1_method_13_code, [], (hw _ (List.mem_of_getElem? (i := 142) rfl)), chk_ok dk_c13, pk_c13, rfl⟩, ⟨prog_1_method_14_code, [.int], (hw _ (List.mem_of_getElem? (i := 121) rfl)), chk_ok dk_c14, pk_c14, rfl⟩, ⟨prog_1_method_15_code, [.int], (hw _ (List.mem_of_getElem? (i := 157) rfl)), chk_ok dk_c15, pk_c15, rfl⟩, ⟨prog_1_method_16_code, [.int], (hw _ (List.mem_of_getElem? (i := 147) rfl)), chk_ok dk_c16, pk_c16, rfl⟩, ⟨prog_1_method_17_code, [.int], (hw _ (List.mem_of_getElem? (i := 152) rfl)), chk_ok dk_c17, pk_c17, rfl⟩, ⟨prog_1_method_18_code, [.int, .int, .int], (hw _ (List.mem_of_getElem? (i := 46) rfl)), chk_ok dk_c18, pk_c18, rfl⟩, ⟨prog_1_method_19_code, [.int], (hw _ (List.mem_of_getElem? (i := 71) rfl)), chk_ok dk_c19, pk_c19, rfl⟩, ⟨prog_1_method_20_code, [.int], (hw _ (List.mem_of_getElem? (i := 75) rfl)), chk_ok dk_c20, pk_c20, rfl⟩, ⟨prog_1_method_21_code, [.int], (hw _ (List.mem_of_getElem? (i := 137) rfl)), chk_ok dk_c21, pk_c21, rfl⟩, ⟨prog_1_method_22_code, [.int], (hw _ (List.mem_of_getElem? (i := 104) rfl)), chk_ok dk_c22, pk_c22, rfl⟩, ⟨prog_1_method_23_code, [.int, .int, .int, .int], (hw _ (List.mem_of_getElem? (i := 226) rfl)), chk_ok dk_c23, pk_c23, rfl⟩, ⟨prog_1_method_24_code, [.int, .int, .int], (hw _ (List.mem_of_getElem? (i := 207) rfl)), chk_ok dk_c24, pk_c24, rfl⟩, ⟨prog_1_method_25_code, [.int, .int, .int, .int], (hw _ (List.mem_of_getElem? (i := 100) rfl)), chk_ok dk_c25, pk_c25, rfl⟩, ⟨prog_1_method_26_code, [.int, .int], (hw _ (List.mem_of_getElem? (i := 125) rfl)), chk_ok dk_c26, pk_c26, rfl⟩, ⟨prog_1_method_27_code, [.int], (hw _ (List.mem_of_getElem? (i := 194) rfl)), chk_ok dk_c27, pk_c27, rfl⟩, ⟨prog_1_method_28_code, [.int], (hw _ (List.mem_of_getElem? (i := 108) rfl)), chk_ok dk_c28, pk_c28, rfl⟩, ⟨prog_1_method_29_code, [.int], (hw _ (List.mem_of_getElem? (i := 112) rfl)), chk_ok dk_c29, pk_c29, rfl⟩, ⟨prog_1_method_30_code, [.int], (hw _ (List.mem_of_getElem? (i := 96) rfl)), chk_ok dk_c30, pk_c30, rfl⟩, ⟨prog_1_method_31_code, [.int], (hw _ (List.mem_of_getElem? (i := 84) rfl)), chk_ok dk_c31, pk_c31, rfl⟩, ⟨prog_1_method_32_code, [.int, .int, .boolean], (hw _ (List.mem_of_getElem? (i := 80) rfl)), chk_ok dk_c32, pk_c32, rfl⟩, ⟨prog_1_method_33_code, [], (hw _ (List.mem_of_getElem? (i := 88) rfl)), chk_ok dk_c33, pk_c33, rfl⟩, ⟨prog_1_method_34_code, [], (hw _ (List.mem_of_getElem? (i := 92) rfl)), chk_ok dk_c34, pk_c34, rfl⟩, ⟨prog_1_method_35_code, [.int, .int], (hw _ (List.mem_of_getElem? (i := 170) rfl)), chk_ok dk_c35, pk_c35, rfl⟩, ⟨prog_1_method_36_code, [.int, .int, .boolean], (hw _ (List.mem_of_getElem? (i := 166) rfl)), chk_ok dk_c36, pk_c36, rfl⟩, ⟨prog_1_method_37_code, [], (hw _ (List.mem_of_getElem? (i := 235) rfl)), chk_ok dk_c37, pk_c37, rfl⟩, ⟨prog_1_method_38_code, [], (hw _ (List.mem_of_getElem? (i := 178) rfl)), chk_ok dk_c38, pk_c38, rfl⟩, ⟨prog_1_method_39_code, [.int], (hw _ (List.mem_of_getElem? (i := 182) rfl)), chk_ok dk_c39, pk_c39, rfl⟩, ⟨prog_1_method_40_code, [], (hw _ (List.mem_of_getElem? (i := 174) rfl)), chk_ok dk_c40, pk_c40, rfl⟩, ⟨prog_1_method_41_code, [.int, .int, .boolean], (hw _ (List.mem_of_getElem? (i := 186) rfl)), chk_ok dk_c41, pk_c41, rfl⟩, ⟨prog_1_method_42_code, [.int], (hw _ (List.mem_of_getElem? (i := 190) rfl)), chk_ok dk_c42, pk_c42, rfl⟩, trivial⟩),
   asc_all (⟨by intro z h; obtain rfl : cm18 = z := Option.some.inj h; exact ⟨(hw _ (List.mem_of_getElem? (i := 43) rfl)), (hw _ (List.mem_of_getElem? (i := 44) rfl)), Or.inl (hw _ (List.mem_of_getElem? (i := 45) rfl))⟩, by intro z h; obtain rfl : cm19 = z := Option.some.inj h; exact ⟨(hw _ (List.mem_of_getElem? (i := 68) rfl)), (hw _ (List.mem_of_getElem? (i := 69) rfl)), Or.inl (hw _ (List.mem_of_getElem? (i := 70) rfl))⟩, by intro z h; obtain rfl : cm20 = z := Option.some.inj h; exact ⟨(hw _ (List.mem_of_getElem? (i := 72) rfl)), (hw _ (List.mem_of_getElem? (i := 73) rfl)), Or.inl (hw _ (List.mem_of_getElem? (i := 74) rfl))⟩, by intro z h; obtain rfl : cm21 = z := Option.some.inj h; exact ⟨(hw _ (List.mem_of_getElem? (i := 134) rfl)), (hw _ (List.mem_of_getElem? (i := 135) rfl)), Or.inl (hw _ (List.mem_of_getElem? (i := 136) rfl))⟩, by intro z h; obtain rfl : cm32 = z := Option.some.inj h; exact ⟨(hw _ (List.mem_of_getElem? (i := 77) rfl)), (hw _ (List.mem_of_getElem? (i := 78) rfl)), Or.inl (hw _ (List.mem_of_getElem? (i := 79) rfl))⟩, by intro z h; obtain rfl : cm24 = z := Option.some.inj h; exact ⟨(hw _ (List.mem_of_getElem? (i := 204) rfl)), (hw _ (List.mem_of_getElem? (i := 205) rfl)), Or.inl (hw _ (List.mem_of_getElem? (i := 206) rfl))⟩, by intro z h; obtain rfl : cm29 = z := Option.some.inj h; exact ⟨(hw _ (List.mem_of_getElem? (i := 109) rfl)), (hw _ (List.mem_of_getElem? (i := 110) rfl)), Or.inl (hw _ (List.mem_of_getElem? (i := 111) rfl))⟩, by intro z h; obtain rfl : cm25 = z := Option.some.inj h; exact ⟨(hw _ (List.mem_of_getElem? (i := 97) rfl)), (hw _ (List.mem_of_getElem? (i := 98) rfl)), Or.inl (hw _ (List.mem_of_getElem? (i := 99) rfl))⟩, by intro z h; obtain rfl : cm27 = z := Option.some.inj h; exact ⟨(hw _ (List.mem_of_getElem? (i := 191) rfl)), (hw _ (List.mem_of_getElem? (i := 192) rfl)), Or.inl (hw _ (List.mem_of_getElem? (i := 193) rfl))⟩, by intro z h; obtain rfl : cm28 = z := Option.some.inj h; exact ⟨(hw _ (List.mem_of_getElem? (i := 105) rfl)), (hw _ (List.mem_of_getElem? (i := 106) rfl)), Or.inl (hw _ (List.mem_of_getElem? (i := 107) rfl))⟩, by intro z h; obtain rfl : cm23 = z := Option.some.inj h; exact ⟨(hw _ (List.mem_of_getElem? (i := 223) rfl)), (hw _ (List.mem_of_getElem? (i := 224) rfl)), Or.inl (hw _ (List.mem_of_getElem? (i := 225) rfl))⟩, by intro z h; obtain rfl : cm40 = z := Option.some.inj h; exact ⟨(hw _ (List.mem_of_getElem? (i := 171) rfl)), (hw _ (List.mem_of_getElem? (i := 172) rfl)), Or.inl (hw _ (List.mem_of_getElem? (i := 173) rfl))⟩, by intro z h; obtain rfl : cm31 = z := Option.some.inj h; exact ⟨(hw _ (List.mem_of_getElem? (i := 81) rfl)), (hw _ (List.mem_of_getElem? (i := 82) rfl)), Or.inl (hw _ (List.mem_of_getElem? (i := 83) rfl))⟩, by intro z h; obtain rfl : cm35 = z := Option.some.inj h; exact ⟨(hw _ (List.mem_of_getElem? (i := 167) rfl)), (hw _ (List.mem_of_getElem? (i := 168) rfl)), Or.inl (hw _ (List.mem_of_getElem? (i := 169) rfl))⟩, by intro z h; obtain rfl : cm36 = z := Option.some.inj h; exact ⟨(hw _ (List.mem_of_getElem? (i := 163) rfl)), (hw _ (List.mem_of_getElem? (i := 164) rfl)), Or.inl (hw _ (List.mem_of_getElem? (i := 165) rfl))⟩, by intro z h; obtain rfl : cm37 = z := Option.some.inj h; exact ⟨(hw _ (List.mem_of_getElem? (i := 232) rfl)), (hw _ (List.mem_of_getElem? (i := 233) rfl)), Or.inl (hw _ (List.mem_of_getElem? (i := 234) rfl))⟩, by intro z h; obtain rfl : cm26 = z := Option.some.inj h; exact ⟨(hw _ (List.mem_of_getElem? (i := 122) rfl)), (hw _ (List.mem_of_getElem? (i := 123) rfl)), Or.inl (hw _ (List.mem_of_getElem? (i := 124) rfl))⟩, by intro z h; obtain rfl : cm22 = z := Option.some.inj h; exact ⟨(hw _ (List.mem_of_getElem? (i := 101) rfl)), (hw _ (List.mem_of_getElem? (i := 102) rfl)), Or.inl (hw _ (List.mem_of_getElem? (i := 103) rfl))⟩, by intro z h; obtain rfl : cm33 = z := Option.some.inj h; exact ⟨(hw _ (List.mem_of_getElem? (i := 85) rfl)), (hw _ (List.mem_of_getElem? (i := 86) rfl)), Or.inl (hw _ (List.mem_of_getElem? (i := 87) rfl))⟩, by intro z h; obtain rfl : cm30 = z := Option.some.inj h; exact ⟨(hw _ (List.mem_of_getElem? (i := 93) rfl)), (hw _ (List.mem_of_getElem? (i := 94) rfl)), Or.inl (hw _ (List.mem_of_getElem? (i := 95) rfl))⟩, by intro z h; obtain rfl : cm34 = z := Option.some.inj h; exact ⟨(hw _ (List.mem_of_getElem? (i := 89) rfl)), (hw _ (List.mem_of_getElem? (i := 90) rfl)), Or.inl (hw _ (List.mem_of_getElem? (i := 91) rfl))⟩, by intro z h; obtain rfl : cm38 = z := Option.some.inj h; exact ⟨(hw _ (List.mem_of_getElem? (i := 175) rfl)), (hw _ (List.mem_of_getElem? (i := 176) rfl)), Or.inl (hw _ (List.mem_of_getElem? (i := 177) rfl))⟩, by intro z h; obtain rfl : cm39 = z := Option.some.inj h; exact ⟨(hw _ (List.mem_of_getElem? (i := 179) rfl)), (hw _ (List.mem_of_getElem? (i := 180) rfl)), Or.inl (hw _ (List.mem_of_getElem? (i := 181) rfl))⟩, by intro z h; obtain rfl : cm41 = z := Option.some.inj h; exact ⟨(hw _ (List.mem_of_getElem? (i := 183) rfl)), (hw _ (List.mem_of_getElem? (i := 184) rfl)), Or.inl (hw _ (List.mem_of_getElem? (i := 185) rfl))⟩, by intro z h; obtain rfl : cm42 = z := Option.some.inj h; exact ⟨(hw _ (List.mem_of_getElem? (i := 187) rfl)), (hw _ (List.mem_of_getElem? (i := 188) rfl)), Or.inl (hw _ (List.mem_of_getElem? (i := 189) rfl))⟩, trivial⟩),
   (by first | (simp [plainName, overriddenIn]; done) | decide +kernel),
   (by decide),
   (by intro me h; obtain rfl : cm0 = me := Option.some.inj h; rfl)⟩
theorem lkL (Z : State) (a0 : Array Value) (hw : ∀ d ∈ tables_1, d.before a0 Z = true) : LinkL PP QQ Z a0 :=
  ⟨⟨(hw _ (List.mem_of_getElem? (i := 0) rfl)), (hw _ (List.mem_of_getElem? (i := 1) rfl))⟩,
   (by intro me h; obtain rfl : cm0 = me := Option.some.inj h; exact ⟨(hw _ (List.mem_of_getElem? (i := 3) rfl)), (hw _ (List.mem_of_getElem? (i := 4) rfl)), rfl⟩),
   asc_all (⟨by intro z h; obtain rfl : cm14 = z := Option.some.inj h; exact ⟨(hw _ (List.mem_of_getElem? (i := 117) rfl)), (hw _ (List.mem_of_getElem? (i := 118) rfl)), (hw _ (List.mem_of_getElem? (i := 119) rfl)), (hw _ (List.mem_of_getElem? (i := 120) rfl))⟩, by intro z h; obtain rfl : cm12 = z := Option.some.inj h; exact ⟨(hw _ (List.mem_of_getElem? (i := 129) rfl)), (hw _ (List.mem_of_getElem? (i := 130) rfl)), (hw _ (List.mem_of_getElem? (i := 131) rfl)), (hw _ (List.mem_of_getElem? (i := 132) rfl))⟩, by intro z h; obtain rfl : cm13 = z := Option.some.inj h; exact ⟨(hw _ (List.mem_of_getElem? (i := 138) rfl)), (hw _ (List.mem_of_getElem? (i := 139) rfl)), (hw _ (List.mem_of_getElem? (i := 140) rfl)), (hw _ (List.mem_of_getElem? (i := 141) rfl))⟩, by intro z h; obtain rfl : cm5 = z := Option.some.inj h; exact ⟨(hw _ (List.mem_of_getElem? (i := 199) rfl)), (hw _ (List.mem_of_getElem? (i := 200) rfl)), (hw _ (List.mem_of_getElem? (i := 201) rfl)), (hw _ (List.mem_of_getElem? (i := 202) rfl))⟩, by intro z h; obtain rfl : cm6 = z := Option.some.inj h; exact ⟨(hw _ (List.mem_of_getElem? (i := 158) rfl)), (hw _ (List.mem_of_getElem? (i := 159) rfl)), (hw _ (List.mem_of_getElem? (i := 160) rfl)), (hw _ (List.mem_of_getElem? (i := 161) rfl))⟩, by intro z h; obtain rfl : cm7 = z := Option.some.inj h; exact ⟨(hw _ (List.mem_of_getElem? (i := 63) rfl)), (hw _ (List.mem_of_getElem? (i := 64) rfl)), (hw _ (List.mem_of_getElem? (i := 65) rfl)), (hw _ (List.mem_of_getElem? (i := 66) rfl))⟩, by intro z h; obtain rfl : cm8 = z := Option.some.inj h; exact ⟨(hw _ (List.mem_of_getElem? (i := 218) rfl)), (hw _ (List.mem_of_getElem? (i := 219) rfl)), (hw _ (List.mem_of_getElem? (i := 220) rfl)), (hw _ (List.mem_of_getElem? (i := 221) rfl))⟩, by intro z h; obtain rfl : cm9 = z := Option.some.inj h; exact ⟨(hw _ (List.mem_of_getElem? (i := 208) rfl)), (hw _ (List.mem_of_getElem? (i := 209) rfl)), (hw _ (List.mem_of_getElem? (i := 210) rfl)), (hw _ (List.mem_of_getElem? (i := 211) rfl))⟩, by intro z h; obtain rfl : cm10 = z := Option.some.inj h; exact ⟨(hw _ (List.mem_of_getElem? (i := 213) rfl)), (hw _ (List.mem_of_getElem? (i := 214) rfl)), (hw _ (List.mem_of_getElem? (i := 215) rfl)), (hw _ (List.mem_of_getElem? (i := 216) rfl))⟩, by intro z h; obtain rfl : cm11 = z := Option.some.inj h; exact ⟨(hw _ (List.mem_of_getElem? (i := 227) rfl)), (hw _ (List.mem_of_getElem? (i := 228) rfl)), (hw _ (List.mem_of_getElem? (i := 229) rfl)), (hw _ (List.mem_of_getElem? (i := 230) rfl))⟩, by intro z h; obtain rfl : cm16 = z := Option.some.inj h; exact ⟨(hw _ (List.mem_of_getElem? (i := 143) rfl)), (hw _ (List.mem_of_getElem? (i := 144) rfl)), (hw _ (List.mem_of_getElem? (i := 145) rfl)), (hw _ (List.mem_of_getElem? (i := 146) rfl))⟩, by intro z h; obtain rfl : cm17 = z := Option.some.inj h; exact ⟨(hw _ (List.mem_of_getElem? (i := 148) rfl)), (hw _ (List.mem_of_getElem? (i := 149) rfl)), (hw _ (List.mem_of_getElem? (i := 150) rfl)), (hw _ (List.mem_of_getElem? (i := 151) rfl))⟩, by intro z h; obtain rfl : cm15 = z := Option.some.inj h; exact ⟨(hw _ (List.mem_of_getElem? (i := 153) rfl)), (hw _ (List.mem_of_getElem? (i := 154) rfl)), (hw _ (List.mem_of_getElem? (i := 155) rfl)), (hw _ (List.mem_of_getElem? (i := 156) rfl))⟩, trivial⟩),
   asc_all (⟨by intro z h; obtain rfl : lm4 = z := Option.some.inj h; exact ⟨(hw _ (List.mem_of_getElem? (i := 59) rfl)), (hw _ (List.mem_of_getElem? (i := 60) rfl)), (hw _ (List.mem_of_getElem? (i := 61) rfl))⟩, by intro z h; obtain rfl : lm2 = z := Option.some.inj h; exact ⟨(hw _ (List.mem_of_getElem? (i := 126) rfl)), (hw _ (List.mem_of_getElem? (i := 127) rfl)), (hw _ (List.mem_of_getElem? (i := 61) rfl))⟩, by intro z h; obtain rfl : lm3 = z := Option.some.inj h; exact ⟨(hw _ (List.mem_of_getElem? (i := 195) rfl)), (hw _ (List.mem_of_getElem? (i := 196) rfl)), (hw _ (List.mem_of_getElem? (i := 61) rfl))⟩, by intro z h; obtain rfl : lm5 = z := Option.some.inj h; exact ⟨(hw _ (List.mem_of_getElem? (i := 114) rfl)), (hw _ (List.mem_of_getElem? (i := 115) rfl)), (hw _ (List.mem_of_getElem? (i := 61) rfl))⟩, trivial⟩),
   asc_all (⟨(hw _ (List.mem_of_getElem? (i := 113) rfl)), (hw _ (List.mem_of_getElem? (i := 198) rfl)), trivial⟩),
   asc_all (⟨fun h => absurd rfl h, fun _ => ⟨method_2_code, [.long, .int], (hw _ (List.mem_of_getElem? (i := 128) rfl)), chk_ok dk_l2, pk_l2, rfl⟩, fun _ => ⟨method_3_code, [.long, .int, .int], (hw _ (List.mem_of_getElem? (i := 197) rfl)), chk_ok dk_l3, pk_l3, rfl⟩, fun _ => ⟨method_4_code, [.long, .long, .long, .long, .int], (hw _ (List.mem_of_getElem? (i := 62) rfl)), chk_ok dk_l4, pk_l4, rfl⟩, fun _ => ⟨method_5_code, [.object "BlockBufferCache", .long, .long, .long, .long, .int], (hw _ (List.mem_of_getElem? (i := 116) rfl)), chk_ok dk_l5, pk_l5, rfl⟩, trivial⟩),
   (by first | (simp [plainName, overriddenIn]; done) | decide +kernel),
   (by decide)⟩
theorem c18_in (a1 : Int32) (a2 : Int32) (a3 : Int32) (s : St) (Q : Int32 → St → Prop) (h : ((a1 < a2) → Q a2 s) ∧ (¬ (a1 < a2) → ((a3 < a1) → Q a3 s) ∧ (¬ (a3 < a1) → Q a1 s))) : calI PP 18 16 [.ref 0, .int a1, .int a2, .int a3] s Q := by
  refine cal_of (me := cm18) (ls := [some (.ref 0), some (.int a1), some (.int a2), some (.int a3)]) rfl (Nat.le_of_ble_eq_true rfl) rfl ?_
  refine wpc_sl (n := 2) (c' := 16) (pc' := 2) (ls' := [some (.ref 0), some (.int a1), some (.int a2), some (.int a3)]) (st' := [.int a2, .int a1]) (s' := s) rfl ?_
  refine wpc_icmp (a := 7) (b := 5) rfl (by decide) rfl rfl (wpc_br (p := a1 < a2) ⟨fun hc232 => ?_, fun hc232 => ?_⟩)
  · have h233 := h.1 hc232
    refine wpc_sl (n := 1) (c' := 16) (pc' := 6) (ls' := [some (.ref 0), some (.int a1), some (.int a2), some (.int a3)]) (st' := [.int a2]) (s' := s) rfl ?_
    exact wpc_ret rfl rfl (fun q => absurd q (by decide)) rfl ⟨a2, rfl, h233⟩
  · have h234 := h.2 hc232
    refine wpc_sl (n := 2) (c' := 16) (pc' := 9) (ls' := [some (.ref 0), some (.int a1), some (.int a2), some (.int a3)]) (st' := [.int a3, .int a1]) (s' := s) rfl ?_
    refine wpc_icmp (a := 14) (b := 12) rfl (by decide) rfl rfl (wpc_br (p := a3 < a1) ⟨fun hc235 => ?_, fun hc235 => ?_⟩)
    · have h236 := h234.1 hc235
      refine wpc_sl (n := 1) (c' := 16) (pc' := 13) (ls' := [some (.ref 0), some (.int a1), some (.int a2), some (.int a3)]) (st' := [.int a3]) (s' := s) rfl ?_
      exact wpc_ret rfl rfl (fun q => absurd q (by decide)) rfl ⟨a3, rfl, h236⟩
    · have h237 := h234.2 hc235
      refine wpc_sl (n := 1) (c' := 16) (pc' := 15) (ls' := [some (.ref 0), some (.int a1), some (.int a2), some (.int a3)]) (st' := [.int a1]) (s' := s) rfl ?_
      exact wpc_ret rfl rfl (fun q => absurd q (by decide)) rfl ⟨a1, rfl, h237⟩
theorem c0_in (a1 : Int32) (a2 : Int32) (a3 : Int32) (s : St) (Q : St → Prop) (h : calI PP 18 16 [.ref 0, .int a1, .int (8 : Int32), .int (32 : Int32)] s (fun v211 s210 => calI PP 18 16 [.ref 0, .int a2, .int (2 : Int32), .int (8 : Int32)] (sI s210 0 14 v211) (fun v214 s213 => calI PP 18 16 [.ref 0, .int a3, .int (1 : Int32), .int (4 : Int32)] (sI s213 0 15 v214) (fun v217 s216 => wpcV PP 0 cm0 16 168 [some (.ref 0), none, none, none, some (.int (0 : Int32))] [] (sI s216 0 16 v217) Q)))) : calV PP 0 0 [.ref 0, .int a1, .int a2, .int a3] s Q := by
  refine cal_of (me := cm0) (ls := [some (.ref 0), some (.int a1), some (.int a2), some (.int a3), none]) rfl (Nat.le_of_ble_eq_true rfl) rfl ?_
  refine wpc_sl (n := 55) (c' := 16) (pc' := 136) (ls' := [some (.ref 0), some (.int a1), some (.int a2), some (.int a3), none]) (st' := [.int (32 : Int32), .int (8 : Int32), .int a1, .ref 0, .ref 0]) (s' := s) rfl ?_
  refine wpc_callI (m' := 18) (me' := cm18) (as := [.int a1, .int (8 : Int32), .int (32 : Int32)]) (r := [.ref 0]) rfl rfl rfl rfl rfl ⟨by decide, (by first | decide | exact Nat.le_of_ble_eq_true rfl), (by first | decide | exact Nat.le_of_ble_eq_true rfl), rfl⟩ (calI.mono h fun v211 s210 h212 => ?_)
  refine wpc_sl (n := 6) (c' := 16) (pc' := 148) (ls' := [some (.ref 0), some (.int a1), some (.int a2), some (.int a3), none]) (st' := [.int (8 : Int32), .int (2 : Int32), .int a2, .ref 0, .ref 0]) (s' := (sI s210 0 14 v211)) rfl ?_
  refine wpc_callI (m' := 18) (me' := cm18) (as := [.int a2, .int (2 : Int32), .int (8 : Int32)]) (r := [.ref 0]) rfl rfl rfl rfl rfl ⟨by decide, (by first | decide | exact Nat.le_of_ble_eq_true rfl), (by first | decide | exact Nat.le_of_ble_eq_true rfl), rfl⟩ (calI.mono h212 fun v214 s213 h215 => ?_)
  refine wpc_sl (n := 6) (c' := 16) (pc' := 159) (ls' := [some (.ref 0), some (.int a1), some (.int a2), some (.int a3), none]) (st' := [.int (4 : Int32), .int (1 : Int32), .int a3, .ref 0, .ref 0]) (s' := (sI s213 0 15 v214)) rfl ?_
  refine wpc_callI (m' := 18) (me' := cm18) (as := [.int a3, .int (1 : Int32), .int (4 : Int32)]) (r := [.ref 0]) rfl rfl rfl rfl rfl ⟨by decide, (by first | decide | exact Nat.le_of_ble_eq_true rfl), (by first | decide | exact Nat.le_of_ble_eq_true rfl), rfl⟩ (calI.mono h215 fun v217 s216 h218 => ?_)
  refine wpc_sl (n := 3) (c' := 16) (pc' := 168) (ls' := [some (.ref 0), some (.int a1), some (.int a2), some (.int a3), some (.int (0 : Int32))]) (st' := []) (s' := (sI s216 0 16 v217)) rfl ?_
  exact wpc_lle (ls := [some (.ref 0), none, none, none, some (.int (0 : Int32))]) ⟨rfl, rfl, trivial⟩ h218
theorem c0_168 (x4 : Int32) (s : St) (Q : St → Prop) (h : ((x4 < (32 : Int32)) → inb 32 x4 ∧ wpcV PP 0 cm0 16 168 [some (.ref 0), none, none, none, some (.int (x4 + (1 : Int32)))] [] (sI s 2 (ix x4) (1 : Int32)) Q) ∧ (¬ (x4 < (32 : Int32)) → wpcV PP 0 cm0 16 192 [some (.ref 0), none, none, none, some (.int (0 : Int32))] [] s Q)) : wpcV PP 0 cm0 16 168 [some (.ref 0), none, none, none, some (.int x4)] [] s Q := by
  refine wpc_sl (n := 2) (c' := 16) (pc' := 172) (ls' := [some (.ref 0), none, none, none, some (.int x4)]) (st' := [.int (32 : Int32), .int x4]) (s' := s) rfl ?_
  refine wpc_icmp (a := 189) (b := 175) rfl (by decide) rfl rfl (wpc_br (p := x4 < (32 : Int32)) ⟨fun hc219 => ?_, fun hc219 => ?_⟩)
  · have h220 := h.1 hc219
    refine wpc_sl (n := 4) (c' := 16) (pc' := 182) (ls' := [some (.ref 0), none, none, none, some (.int x4)]) (st' := [.int (1 : Int32), .int x4, .ref 2]) (s' := s) rfl ?_
    refine wpc_staZ (a := 1) (N := 32) (s' := (sI s 2 (ix x4) (1 : Int32))) rfl rfl (by decide) h220.1 rfl ?_
    have h222 := h220.2
    refine wpc_sl (n := 2) (c' := 16) (pc' := 168) (ls' := [some (.ref 0), none, none, none, some (.int (x4 + (1 : Int32)))]) (st' := []) (s' := (sI s 2 (ix x4) (1 : Int32))) rfl ?_
    exact h222
  · have h221 := h.2 hc219
    refine wpc_sl (n := 2) (c' := 16) (pc' := 192) (ls' := [some (.ref 0), none, none, none, some (.int (0 : Int32))]) (st' := []) (s' := s) rfl ?_
    exact h221
theorem c0_192 (x4 : Int32) (s : St) (Q : St → Prop) (h : ((x4 < (8 : Int32)) → inb 8 x4 ∧ wpcV PP 0 cm0 16 192 [some (.ref 0), none, none, none, some (.int (x4 + (1 : Int32)))] [] (sI s 4 (ix x4) (-1 : Int32)) Q) ∧ (¬ (x4 < (8 : Int32)) → wpcV PP 0 cm0 16 216 [some (.ref 0), none, none, none, some (.int (0 : Int32))] [] s Q)) : wpcV PP 0 cm0 16 192 [some (.ref 0), none, none, none, some (.int x4)] [] s Q := by
  refine wpc_sl (n := 2) (c' := 16) (pc' := 196) (ls' := [some (.ref 0), none, none, none, some (.int x4)]) (st' := [.int (8 : Int32), .int x4]) (s' := s) rfl ?_
  refine wpc_icmp (a := 213) (b := 199) rfl (by decide) rfl rfl (wpc_br (p := x4 < (8 : Int32)) ⟨fun hc223 => ?_, fun hc223 => ?_⟩)
  · have h224 := h.1 hc223
    refine wpc_sl (n := 4) (c' := 16) (pc' := 206) (ls' := [some (.ref 0), none, none, none, some (.int x4)]) (st' := [.int (-1 : Int32), .int x4, .ref 4]) (s' := s) rfl ?_
    refine wpc_staI (a := 3) (N := 8) (s' := (sI s 4 (ix x4) (-1 : Int32))) rfl rfl (by decide) h224.1 rfl ?_
    have h226 := h224.2
    refine wpc_sl (n := 2) (c' := 16) (pc' := 192) (ls' := [some (.ref 0), none, none, none, some (.int (x4 + (1 : Int32)))]) (st' := []) (s' := (sI s 4 (ix x4) (-1 : Int32))) rfl ?_
    exact h226
  · have h225 := h.2 hc223
    refine wpc_sl (n := 2) (c' := 16) (pc' := 216) (ls' := [some (.ref 0), none, none, none, some (.int (0 : Int32))]) (st' := []) (s' := s) rfl ?_
    exact h225
theorem c0_216 (x4 : Int32) (s : St) (Q : St → Prop) (h : ((x4 < (4 : Int32)) → inb 4 x4 ∧ inb 4 x4 ∧ wpcV PP 0 cm0 16 216 [some (.ref 0), none, none, none, some (.int (x4 + (1 : Int32)))] [] (sI (sI s 13 (ix x4) (-5 : Int32)) 16 (ix x4) (-1 : Int32)) Q) ∧ (¬ (x4 < (4 : Int32)) → Q (sI (sI (sI s 0 26 (0 : Int32)) 0 30 (0 : Int32)) 0 31 (0 : Int32)))) : wpcV PP 0 cm0 16 216 [some (.ref 0), none, none, none, some (.int x4)] [] s Q := by
  refine wpc_sl (n := 2) (c' := 16) (pc' := 219) (ls' := [some (.ref 0), none, none, none, some (.int x4)]) (st' := [.int (4 : Int32), .int x4]) (s' := s) rfl ?_
  refine wpc_icmp (a := 245) (b := 222) rfl (by decide) rfl rfl (wpc_br (p := x4 < (4 : Int32)) ⟨fun hc227 => ?_, fun hc227 => ?_⟩)
  · have h228 := h.1 hc227
    refine wpc_sl (n := 4) (c' := 16) (pc' := 230) (ls' := [some (.ref 0), none, none, none, some (.int x4)]) (st' := [.int (-5 : Int32), .int x4, .ref 13]) (s' := s) rfl ?_
    refine wpc_staI (a := 12) (N := 4) (s' := (sI s 13 (ix x4) (-5 : Int32))) rfl rfl (by decide) h228.1 rfl ?_
    have h230 := h228.2
    refine wpc_sl (n := 4) (c' := 16) (pc' := 238) (ls' := [some (.ref 0), none, none, none, some (.int x4)]) (st' := [.int (-1 : Int32), .int x4, .ref 16]) (s' := (sI s 13 (ix x4) (-5 : Int32))) rfl ?_
    refine wpc_staI (a := 15) (N := 4) (s' := (sI (sI s 13 (ix x4) (-5 : Int32)) 16 (ix x4) (-1 : Int32))) rfl rfl (by decide) h230.1 rfl ?_
    have h231 := h230.2
    refine wpc_sl (n := 2) (c' := 16) (pc' := 216) (ls' := [some (.ref 0), none, none, none, some (.int (x4 + (1 : Int32)))]) (st' := []) (s' := (sI (sI s 13 (ix x4) (-5 : Int32)) 16 (ix x4) (-1 : Int32))) rfl ?_
    exact h231
  · have h229 := h.2 hc227
    refine wpc_sl (n := 9) (c' := 16) (pc' := 260) (ls' := [some (.ref 0), none, none, none, some (.int x4)]) (st' := []) (s' := (sI (sI (sI s 0 26 (0 : Int32)) 0 30 (0 : Int32)) 0 31 (0 : Int32))) rfl ?_
    exact wpc_ret rfl rfl (fun _ => rfl) rfl ⟨rfl, h229⟩
theorem l4W1_in (N : Nat) (sg : Nat → Int32) (a0 : Int64) (a1 : Int64) (a2 : Int64) (a3 : Int64) (a4 : Int32) (s : St) (Q : Int64 → Wd → Prop) (h : ((a4 = (0 : Int32)) → Q a0 (W1 s)) ∧ (¬ (a4 = (0 : Int32)) → ((a4 = (1 : Int32)) → Q a1 (W1 s)) ∧ (¬ (a4 = (1 : Int32)) → ((a4 = (2 : Int32)) → Q a2 (W1 s)) ∧ (¬ (a4 = (2 : Int32)) → Q a3 (W1 s))))) : lalL PP QQ (some (N, sg)) 4 [.long a0, .long a1, .long a2, .long a3, .int a4] (W1 s) Q := by
  refine lal_of (me := lm4) (ls := [some (.long a0), none, some (.long a1), none, some (.long a2), none, some (.long a3), none, some (.int a4)]) rfl (Nat.le_of_ble_eq_true rfl) rfl ?_
  refine wpl_sl (n := 1) (pc' := 2) (ls' := [some (.long a0), none, some (.long a1), none, some (.long a2), none, some (.long a3), none, some (.int a4)]) (st' := [.int a4]) rfl ?_
  refine wpl_if (a := 9) (b := 5) rfl (by decide) rfl rfl (wpl_br (p := a4 = (0 : Int32)) ⟨fun hc238 => ?_, fun hc238 => ?_⟩)
  · have h239 := h.1 hc238
    refine wpl_sl (n := 2) (pc' := 32) (ls' := [some (.long a0), none, some (.long a1), none, some (.long a2), none, some (.long a3), none, some (.int a4)]) (st' := [.long a0]) rfl ?_
    exact wpl_ret rfl rfl rfl ⟨a0, rfl, h239⟩
  · have h240 := h.2 hc238
    refine wpl_sl (n := 2) (pc' := 12) (ls' := [some (.long a0), none, some (.long a1), none, some (.long a2), none, some (.long a3), none, some (.int a4)]) (st' := [.int (1 : Int32), .int a4]) rfl ?_
    refine wpl_icmp (a := 19) (b := 15) rfl (by decide) rfl rfl (wpl_br (p := a4 = (1 : Int32)) ⟨fun hc241 => ?_, fun hc241 => ?_⟩)
    · have h242 := h240.1 hc241
      refine wpl_sl (n := 2) (pc' := 32) (ls' := [some (.long a0), none, some (.long a1), none, some (.long a2), none, some (.long a3), none, some (.int a4)]) (st' := [.long a1]) rfl ?_
      exact wpl_ret rfl rfl rfl ⟨a1, rfl, h242⟩
    · have h243 := h240.2 hc241
      refine wpl_sl (n := 2) (pc' := 22) (ls' := [some (.long a0), none, some (.long a1), none, some (.long a2), none, some (.long a3), none, some (.int a4)]) (st' := [.int (2 : Int32), .int a4]) rfl ?_
      refine wpl_icmp (a := 30) (b := 25) rfl (by decide) rfl rfl (wpl_br (p := a4 = (2 : Int32)) ⟨fun hc244 => ?_, fun hc244 => ?_⟩)
      · have h245 := h243.1 hc244
        refine wpl_sl (n := 2) (pc' := 32) (ls' := [some (.long a0), none, some (.long a1), none, some (.long a2), none, some (.long a3), none, some (.int a4)]) (st' := [.long a2]) rfl ?_
        exact wpl_ret rfl rfl rfl ⟨a2, rfl, h245⟩
      · have h246 := h243.2 hc244
        refine wpl_sl (n := 1) (pc' := 32) (ls' := [some (.long a0), none, some (.long a1), none, some (.long a2), none, some (.long a3), none, some (.int a4)]) (st' := [.long a3]) rfl ?_
        exact wpl_ret rfl rfl rfl ⟨a3, rfl, h246⟩
theorem c19_in (a1 : Int32) (s : St) (Q : Int32 → St → Prop) (h : ((a1 < (0 : Int32)) → Q (1 : Int32) s) ∧ (¬ (a1 < (0 : Int32)) → ((a1 < (gI s 0 16)) → Q (0 : Int32) s) ∧ (¬ (a1 < (gI s 0 16)) → Q (1 : Int32) s))) : calI PP 19 16 [.ref 0, .int a1] s Q := by
  refine cal_of (me := cm19) (ls := [some (.ref 0), some (.int a1)]) rfl (Nat.le_of_ble_eq_true rfl) rfl ?_
  refine wpc_sl (n := 1) (c' := 16) (pc' := 1) (ls' := [some (.ref 0), some (.int a1)]) (st' := [.int a1]) (s' := s) rfl ?_
  refine wpc_if (a := 12) (b := 4) rfl (by decide) rfl rfl (wpc_br (p := a1 < (0 : Int32)) ⟨fun hc277 => ?_, fun hc277 => ?_⟩)
  · have h278 := h.1 hc277
    refine wpc_sl (n := 2) (c' := 16) (pc' := 17) (ls' := [some (.ref 0), some (.int a1)]) (st' := [.int (1 : Int32)]) (s' := s) rfl ?_
    exact wpc_ret rfl rfl (fun q => absurd q (by decide)) rfl ⟨(1 : Int32), rfl, h278⟩
  · have h279 := h.2 hc277
    refine wpc_sl (n := 3) (c' := 16) (pc' := 9) (ls' := [some (.ref 0), some (.int a1)]) (st' := [.int (gI s 0 16), .int a1]) (s' := s) rfl ?_
    refine wpc_icmp (a := 16) (b := 12) rfl (by decide) rfl rfl (wpc_br (p := a1 < (gI s 0 16)) ⟨fun hc280 => ?_, fun hc280 => ?_⟩)
    · have h281 := h279.1 hc280
      refine wpc_sl (n := 1) (c' := 16) (pc' := 17) (ls' := [some (.ref 0), some (.int a1)]) (st' := [.int (0 : Int32)]) (s' := s) rfl ?_
      exact wpc_ret rfl rfl (fun q => absurd q (by decide)) rfl ⟨(0 : Int32), rfl, h281⟩
    · have h282 := h279.2 hc280
      refine wpc_sl (n := 2) (c' := 16) (pc' := 17) (ls' := [some (.ref 0), some (.int a1)]) (st' := [.int (1 : Int32)]) (s' := s) rfl ?_
      exact wpc_ret rfl rfl (fun q => absurd q (by decide)) rfl ⟨(1 : Int32), rfl, h282⟩
theorem c20_in (a1 : Int32) (s : St) (Q : Int32 → St → Prop) (h : ((a1 < (0 : Int32)) → Q (1 : Int32) s) ∧ (¬ (a1 < (0 : Int32)) → ((a1 < (gI s 0 14)) → Q (0 : Int32) s) ∧ (¬ (a1 < (gI s 0 14)) → Q (1 : Int32) s))) : calI PP 20 16 [.ref 0, .int a1] s Q := by
  refine cal_of (me := cm20) (ls := [some (.ref 0), some (.int a1)]) rfl (Nat.le_of_ble_eq_true rfl) rfl ?_
  refine wpc_sl (n := 1) (c' := 16) (pc' := 1) (ls' := [some (.ref 0), some (.int a1)]) (st' := [.int a1]) (s' := s) rfl ?_
  refine wpc_if (a := 12) (b := 4) rfl (by decide) rfl rfl (wpc_br (p := a1 < (0 : Int32)) ⟨fun hc283 => ?_, fun hc283 => ?_⟩)
  · have h284 := h.1 hc283
    refine wpc_sl (n := 2) (c' := 16) (pc' := 17) (ls' := [some (.ref 0), some (.int a1)]) (st' := [.int (1 : Int32)]) (s' := s) rfl ?_
    exact wpc_ret rfl rfl (fun q => absurd q (by decide)) rfl ⟨(1 : Int32), rfl, h284⟩
  · have h285 := h.2 hc283
    refine wpc_sl (n := 3) (c' := 16) (pc' := 9) (ls' := [some (.ref 0), some (.int a1)]) (st' := [.int (gI s 0 14), .int a1]) (s' := s) rfl ?_
    refine wpc_icmp (a := 16) (b := 12) rfl (by decide) rfl rfl (wpc_br (p := a1 < (gI s 0 14)) ⟨fun hc286 => ?_, fun hc286 => ?_⟩)
    · have h287 := h285.1 hc286
      refine wpc_sl (n := 1) (c' := 16) (pc' := 17) (ls' := [some (.ref 0), some (.int a1)]) (st' := [.int (0 : Int32)]) (s' := s) rfl ?_
      exact wpc_ret rfl rfl (fun q => absurd q (by decide)) rfl ⟨(0 : Int32), rfl, h287⟩
    · have h288 := h285.2 hc286
      refine wpc_sl (n := 2) (c' := 16) (pc' := 17) (ls' := [some (.ref 0), some (.int a1)]) (st' := [.int (1 : Int32)]) (s' := s) rfl ?_
      exact wpc_ret rfl rfl (fun q => absurd q (by decide)) rfl ⟨(1 : Int32), rfl, h288⟩
theorem c21_in (a1 : Int32) (s : St) (Q : Int32 → St → Prop) (h : ((a1 < (0 : Int32)) → Q (1 : Int32) s) ∧ (¬ (a1 < (0 : Int32)) → ((a1 < (4 : Int32)) → Q (0 : Int32) s) ∧ (¬ (a1 < (4 : Int32)) → Q (1 : Int32) s))) : calI PP 21 16 [.ref 0, .int a1] s Q := by
  refine cal_of (me := cm21) (ls := [some (.ref 0), some (.int a1)]) rfl (Nat.le_of_ble_eq_true rfl) rfl ?_
  refine wpc_sl (n := 1) (c' := 16) (pc' := 1) (ls' := [some (.ref 0), some (.int a1)]) (st' := [.int a1]) (s' := s) rfl ?_
  refine wpc_if (a := 9) (b := 4) rfl (by decide) rfl rfl (wpc_br (p := a1 < (0 : Int32)) ⟨fun hc289 => ?_, fun hc289 => ?_⟩)
  · have h290 := h.1 hc289
    refine wpc_sl (n := 2) (c' := 16) (pc' := 14) (ls' := [some (.ref 0), some (.int a1)]) (st' := [.int (1 : Int32)]) (s' := s) rfl ?_
    exact wpc_ret rfl rfl (fun q => absurd q (by decide)) rfl ⟨(1 : Int32), rfl, h290⟩
  · have h291 := h.2 hc289
    refine wpc_sl (n := 2) (c' := 16) (pc' := 6) (ls' := [some (.ref 0), some (.int a1)]) (st' := [.int (4 : Int32), .int a1]) (s' := s) rfl ?_
    refine wpc_icmp (a := 13) (b := 9) rfl (by decide) rfl rfl (wpc_br (p := a1 < (4 : Int32)) ⟨fun hc292 => ?_, fun hc292 => ?_⟩)
    · have h293 := h291.1 hc292
      refine wpc_sl (n := 1) (c' := 16) (pc' := 14) (ls' := [some (.ref 0), some (.int a1)]) (st' := [.int (0 : Int32)]) (s' := s) rfl ?_
      exact wpc_ret rfl rfl (fun q => absurd q (by decide)) rfl ⟨(0 : Int32), rfl, h293⟩
    · have h294 := h291.2 hc292
      refine wpc_sl (n := 2) (c' := 16) (pc' := 14) (ls' := [some (.ref 0), some (.int a1)]) (st' := [.int (1 : Int32)]) (s' := s) rfl ?_
      exact wpc_ret rfl rfl (fun q => absurd q (by decide)) rfl ⟨(1 : Int32), rfl, h294⟩
theorem c31_in (a1 : Int32) (s : St) (Q : Int32 → St → Prop) (h : wpcI PP 31 cm31 16 2 [some (.ref 0), some (.int a1), some (.int (0 : Int32))] [] s Q) : calI PP 31 16 [.ref 0, .int a1] s Q := by
  refine cal_of (me := cm31) (ls := [some (.ref 0), some (.int a1), none]) rfl (Nat.le_of_ble_eq_true rfl) rfl ?_
  refine wpc_sl (n := 2) (c' := 16) (pc' := 2) (ls' := [some (.ref 0), some (.int a1), some (.int (0 : Int32))]) (st' := []) (s' := s) rfl ?_
  exact h
theorem c31_2 (x1 : Int32) (x2 : Int32) (s : St) (Q : Int32 → St → Prop) (h : ((x2 < (gI s 0 15)) → inb 8 x2 ∧ (((gI s 4 (ix x2)) = x1) → Q x2 s) ∧ (¬ ((gI s 4 (ix x2)) = x1) → wpcI PP 31 cm31 16 2 [some (.ref 0), some (.int x1), some (.int (x2 + (1 : Int32)))] [] s Q)) ∧ (¬ (x2 < (gI s 0 15)) → Q (-1 : Int32) s)) : wpcI PP 31 cm31 16 2 [some (.ref 0), some (.int x1), some (.int x2)] [] s Q := by
  refine wpc_sl (n := 3) (c' := 16) (pc' := 7) (ls' := [some (.ref 0), some (.int x1), some (.int x2)]) (st' := [.int (gI s 0 15), .int x2]) (s' := s) rfl ?_
  refine wpc_icmp (a := 28) (b := 10) rfl (by decide) rfl rfl (wpc_br (p := x2 < (gI s 0 15)) ⟨fun hc334 => ?_, fun hc334 => ?_⟩)
  · have h335 := h.1 hc334
    refine wpc_sl (n := 3) (c' := 16) (pc' := 15) (ls' := [some (.ref 0), some (.int x1), some (.int x2)]) (st' := [.int x2, .ref 4]) (s' := s) rfl ?_
    refine wpc_ldaI (a := 3) (N := 8) (v := (gI s 4 (ix x2))) rfl rfl (by decide) h335.1 rfl ?_
    have h337 := h335.2
    refine wpc_sl (n := 1) (c' := 16) (pc' := 17) (ls' := [some (.ref 0), some (.int x1), some (.int x2)]) (st' := [.int x1, .int (gI s 4 (ix x2))]) (s' := s) rfl ?_
    refine wpc_icmp (a := 22) (b := 20) rfl (by decide) rfl rfl (wpc_br (p := (gI s 4 (ix x2)) = x1) ⟨fun hc338 => ?_, fun hc338 => ?_⟩)
    · have h339 := h337.1 hc338
      refine wpc_sl (n := 1) (c' := 16) (pc' := 21) (ls' := [some (.ref 0), some (.int x1), some (.int x2)]) (st' := [.int x2]) (s' := s) rfl ?_
      exact wpc_ret rfl rfl (fun q => absurd q (by decide)) rfl ⟨x2, rfl, h339⟩
    · have h340 := h337.2 hc338
      refine wpc_sl (n := 2) (c' := 16) (pc' := 2) (ls' := [some (.ref 0), some (.int x1), some (.int (x2 + (1 : Int32)))]) (st' := []) (s' := s) rfl ?_
      exact h340
  · have h336 := h.2 hc334
    refine wpc_sl (n := 1) (c' := 16) (pc' := 29) (ls' := [some (.ref 0), some (.int x1), some (.int x2)]) (st' := [.int (-1 : Int32)]) (s' := s) rfl ?_
    exact wpc_ret rfl rfl (fun q => absurd q (by decide)) rfl ⟨(-1 : Int32), rfl, h336⟩
theorem c34_in  (s : St) (Q : Int32 → St → Prop) (h : wpcI PP 34 cm34 16 4 [some (.ref 0), some (.int (-1 : Int32)), some (.int (0 : Int32))] [] s Q) : calI PP 34 16 [.ref 0] s Q := by
  refine cal_of (me := cm34) (ls := [some (.ref 0), none, none]) rfl (Nat.le_of_ble_eq_true rfl) rfl ?_
  refine wpc_sl (n := 4) (c' := 16) (pc' := 4) (ls' := [some (.ref 0), some (.int (-1 : Int32)), some (.int (0 : Int32))]) (st' := []) (s' := s) rfl ?_
  exact h
theorem c34_4 (x1 : Int32) (x2 : Int32) (s : St) (Q : Int32 → St → Prop) (h : ((x2 < (gI s 0 15)) → inb 8 x2 ∧ (((gI s 7 (ix x2)) = (0 : Int32)) → inb 8 x2 ∧ (((gI s 8 (ix x2)) = (0 : Int32)) → ((x1 < (0 : Int32)) → wpcI PP 34 cm34 16 51 [some (.ref 0), some (.int x2), some (.int x2)] [] s Q) ∧ (¬ (x1 < (0 : Int32)) → inb 8 x2 ∧ inb 8 x1 ∧ ∀ m392, m392 = (if (gI s 9 (ix x2)) < (gI s 9 (ix x1)) then x2 else x1) → (wpcI PP 34 cm34 16 51 [some (.ref 0), some (.int m392), some (.int x2)] [] s Q))) ∧ (¬ ((gI s 8 (ix x2)) = (0 : Int32)) → wpcI PP 34 cm34 16 51 [some (.ref 0), some (.int x1), some (.int x2)] [] s Q)) ∧ (¬ ((gI s 7 (ix x2)) = (0 : Int32)) → wpcI PP 34 cm34 16 51 [some (.ref 0), some (.int x1), some (.int x2)] [] s Q)) ∧ (¬ (x2 < (gI s 0 15)) → Q x1 s)) : wpcI PP 34 cm34 16 4 [some (.ref 0), some (.int x1), some (.int x2)] [] s Q := by
  refine wpc_sl (n := 3) (c' := 16) (pc' := 9) (ls' := [some (.ref 0), some (.int x1), some (.int x2)]) (st' := [.int (gI s 0 15), .int x2]) (s' := s) rfl ?_
  refine wpc_icmp (a := 57) (b := 12) rfl (by decide) rfl rfl (wpc_br (p := x2 < (gI s 0 15)) ⟨fun hc376 => ?_, fun hc376 => ?_⟩)
  · have h377 := h.1 hc376
    refine wpc_sl (n := 3) (c' := 16) (pc' := 17) (ls' := [some (.ref 0), some (.int x1), some (.int x2)]) (st' := [.int x2, .ref 7]) (s' := s) rfl ?_
    refine wpc_ldaZ (a := 6) (N := 8) (v := (gI s 7 (ix x2))) rfl rfl (by decide) h377.1 rfl ?_
    have h379 := h377.2
    refine wpc_if (a := 51) (b := 21) rfl (by decide) rfl rfl (wpc_br (p := (gI s 7 (ix x2)) = (0 : Int32)) ⟨fun hc380 => ?_, fun hc380 => ?_⟩)
    · have h381 := h379.1 hc380
      refine wpc_sl (n := 3) (c' := 16) (pc' := 26) (ls' := [some (.ref 0), some (.int x1), some (.int x2)]) (st' := [.int x2, .ref 8]) (s' := s) rfl ?_
      refine wpc_ldaZ (a := 7) (N := 8) (v := (gI s 8 (ix x2))) rfl rfl (by decide) h381.1 rfl ?_
      have h383 := h381.2
      refine wpc_if (a := 51) (b := 30) rfl (by decide) rfl rfl (wpc_br (p := (gI s 8 (ix x2)) = (0 : Int32)) ⟨fun hc384 => ?_, fun hc384 => ?_⟩)
      · have h385 := h383.1 hc384
        refine wpc_sl (n := 1) (c' := 16) (pc' := 31) (ls' := [some (.ref 0), some (.int x1), some (.int x2)]) (st' := [.int x1]) (s' := s) rfl ?_
        refine wpc_if (a := 49) (b := 34) rfl (by decide) rfl rfl (wpc_br (p := x1 < (0 : Int32)) ⟨fun hc387 => ?_, fun hc387 => ?_⟩)
        · have h388 := h385.1 hc387
          refine wpc_sl (n := 2) (c' := 16) (pc' := 51) (ls' := [some (.ref 0), some (.int x2), some (.int x2)]) (st' := []) (s' := s) rfl ?_
          exact h388
        · have h389 := h385.2 hc387
          refine wpc_sl (n := 3) (c' := 16) (pc' := 39) (ls' := [some (.ref 0), some (.int x1), some (.int x2)]) (st' := [.int x2, .ref 9]) (s' := s) rfl ?_
          refine wpc_ldaI (a := 8) (N := 8) (v := (gI s 9 (ix x2))) rfl rfl (by decide) h389.1 rfl ?_
          have h390 := h389.2
          refine wpc_sl (n := 3) (c' := 16) (pc' := 45) (ls' := [some (.ref 0), some (.int x1), some (.int x2)]) (st' := [.int x1, .ref 9, .int (gI s 9 (ix x2))]) (s' := s) rfl ?_
          refine wpc_ldaI (a := 8) (N := 8) (v := (gI s 9 (ix x1))) rfl rfl (by decide) h390.1 rfl ?_
          have h391 := h390.2
          have hm393 : ∀ m392, m392 = (if (gI s 9 (ix x2)) < (gI s 9 (ix x1)) then x2 else x1) → wpcI PP 34 cm34 16 51 [some (.ref 0), some (.int m392), some (.int x2)] [] s Q := by
            intro m392 em392
            have h394 := h391 m392 em392
            exact h394
          refine wpc_icmp (a := 51) (b := 49) rfl (by decide) rfl rfl (wpc_br (p := (gI s 9 (ix x2)) < (gI s 9 (ix x1))) ⟨fun hc395 => ?_, fun hc395 => ?_⟩)
          · refine wpc_sl (n := 2) (c' := 16) (pc' := 51) (ls' := [some (.ref 0), some (.int x2), some (.int x2)]) (st' := []) (s' := s) rfl ?_
            first | exact hm393 _ (by simp only [if_pos hc395]) | exact wpc_lle (by repeat (first | exact trivial | refine ⟨rfl, ?_⟩)) (hm393 _ (by simp only [if_pos hc395]))
          · first | exact hm393 _ (by simp only [if_neg hc395]) | exact wpc_lle (by repeat (first | exact trivial | refine ⟨rfl, ?_⟩)) (hm393 _ (by simp only [if_neg hc395]))
      · have h386 := h383.2 hc384
        exact h386
    · have h382 := h379.2 hc380
      exact h382
  · have h378 := h.2 hc376
    refine wpc_sl (n := 1) (c' := 16) (pc' := 58) (ls' := [some (.ref 0), some (.int x1), some (.int x2)]) (st' := [.int x1]) (s' := s) rfl ?_
    exact wpc_ret rfl rfl (fun q => absurd q (by decide)) rfl ⟨x1, rfl, h378⟩
theorem c34_51 (x1 : Int32) (x2 : Int32) (s : St) (Q : Int32 → St → Prop) (h : wpcI PP 34 cm34 16 4 [some (.ref 0), some (.int x1), some (.int (x2 + (1 : Int32)))] [] s Q) : wpcI PP 34 cm34 16 51 [some (.ref 0), some (.int x1), some (.int x2)] [] s Q := by
  refine wpc_sl (n := 2) (c' := 16) (pc' := 4) (ls' := [some (.ref 0), some (.int x1), some (.int (x2 + (1 : Int32)))]) (st' := []) (s' := s) rfl ?_
  exact h
theorem c38_in  (s : St) (Q : Int32 → St → Prop) (h : wpcI PP 38 cm38 16 6 [some (.ref 0), some (.int (-1 : Int32)), some (.int (-1 : Int32)), some (.int (0 : Int32)), none] [] s Q) : calI PP 38 16 [.ref 0] s Q := by
  refine cal_of (me := cm38) (ls := [some (.ref 0), none, none, none, none]) rfl (Nat.le_of_ble_eq_true rfl) rfl ?_
  refine wpc_sl (n := 6) (c' := 16) (pc' := 6) (ls' := [some (.ref 0), some (.int (-1 : Int32)), some (.int (-1 : Int32)), some (.int (0 : Int32)), none]) (st' := []) (s' := s) rfl ?_
  exact h
theorem c38_6 (x1 : Int32) (x2 : Int32) (x3 : Int32) (s : St) (Q : Int32 → St → Prop) (h : ((x3 < (gI s 0 30)) → inb 16 x3 ∧ (((gI s 11 (ix x3)) < (gI s 0 31)) → wpcI PP 38 cm38 16 48 [some (.ref 0), some (.int x1), some (.int x2), some (.int x3), some (.int (gI s 11 (ix x3)))] [] s Q) ∧ (¬ ((gI s 11 (ix x3)) < (gI s 0 31)) → ((x1 < (0 : Int32)) → wpcI PP 38 cm38 16 48 [some (.ref 0), some (.int x3), some (.int x2), some (.int x3), some (.int (gI s 11 (ix x3)))] [] s Q) ∧ (¬ (x1 < (0 : Int32)) → inb 16 x1 ∧ ∀ m438, m438 = (if (gI s 11 (ix x3)) < (gI s 11 (ix x1)) then x3 else x1) → (wpcI PP 38 cm38 16 48 [some (.ref 0), some (.int m438), some (.int x2), some (.int x3), some (.int (gI s 11 (ix x3)))] [] s Q)))) ∧ (¬ (x3 < (gI s 0 30)) → ((x1 < (0 : Int32)) → Q x2 s) ∧ (¬ (x1 < (0 : Int32)) → Q x1 s))) : wpcI PP 38 cm38 16 6 [some (.ref 0), some (.int x1), some (.int x2), some (.int x3), none] [] s Q := by
  refine wpc_sl (n := 3) (c' := 16) (pc' := 11) (ls' := [some (.ref 0), some (.int x1), some (.int x2), some (.int x3), none]) (st' := [.int (gI s 0 30), .int x3]) (s' := s) rfl ?_
  refine wpc_icmp (a := 71) (b := 14) rfl (by decide) rfl rfl (wpc_br (p := x3 < (gI s 0 30)) ⟨fun hc427 => ?_, fun hc427 => ?_⟩)
  · have h428 := h.1 hc427
    refine wpc_sl (n := 3) (c' := 16) (pc' := 19) (ls' := [some (.ref 0), some (.int x1), some (.int x2), some (.int x3), none]) (st' := [.int x3, .ref 11]) (s' := s) rfl ?_
    refine wpc_ldaI (a := 10) (N := 16) (v := (gI s 11 (ix x3))) rfl rfl (by decide) h428.1 rfl ?_
    have h430 := h428.2
    refine wpc_sl (n := 4) (c' := 16) (pc' := 28) (ls' := [some (.ref 0), some (.int x1), some (.int x2), some (.int x3), some (.int (gI s 11 (ix x3)))]) (st' := [.int (gI s 0 31), .int (gI s 11 (ix x3))]) (s' := s) rfl ?_
    refine wpc_icmp (a := 48) (b := 31) rfl (by decide) rfl rfl (wpc_br (p := (gI s 11 (ix x3)) < (gI s 0 31)) ⟨fun hc431 => ?_, fun hc431 => ?_⟩)
    · have h432 := h430.1 hc431
      exact h432
    · have h433 := h430.2 hc431
      refine wpc_sl (n := 1) (c' := 16) (pc' := 32) (ls' := [some (.ref 0), some (.int x1), some (.int x2), some (.int x3), some (.int (gI s 11 (ix x3)))]) (st' := [.int x1]) (s' := s) rfl ?_
      refine wpc_if (a := 46) (b := 35) rfl (by decide) rfl rfl (wpc_br (p := x1 < (0 : Int32)) ⟨fun hc434 => ?_, fun hc434 => ?_⟩)
      · have h435 := h433.1 hc434
        refine wpc_sl (n := 2) (c' := 16) (pc' := 48) (ls' := [some (.ref 0), some (.int x3), some (.int x2), some (.int x3), some (.int (gI s 11 (ix x3)))]) (st' := []) (s' := s) rfl ?_
        exact h435
      · have h436 := h433.2 hc434
        refine wpc_sl (n := 4) (c' := 16) (pc' := 42) (ls' := [some (.ref 0), some (.int x1), some (.int x2), some (.int x3), some (.int (gI s 11 (ix x3)))]) (st' := [.int x1, .ref 11, .int (gI s 11 (ix x3))]) (s' := s) rfl ?_
        refine wpc_ldaI (a := 10) (N := 16) (v := (gI s 11 (ix x1))) rfl rfl (by decide) h436.1 rfl ?_
        have h437 := h436.2
        have hm439 : ∀ m438, m438 = (if (gI s 11 (ix x3)) < (gI s 11 (ix x1)) then x3 else x1) → wpcI PP 38 cm38 16 48 [some (.ref 0), some (.int m438), some (.int x2), some (.int x3), some (.int (gI s 11 (ix x3)))] [] s Q := by
          intro m438 em438
          have h440 := h437 m438 em438
          exact h440
        refine wpc_icmp (a := 48) (b := 46) rfl (by decide) rfl rfl (wpc_br (p := (gI s 11 (ix x3)) < (gI s 11 (ix x1))) ⟨fun hc441 => ?_, fun hc441 => ?_⟩)
        · refine wpc_sl (n := 2) (c' := 16) (pc' := 48) (ls' := [some (.ref 0), some (.int x3), some (.int x2), some (.int x3), some (.int (gI s 11 (ix x3)))]) (st' := []) (s' := s) rfl ?_
          first | exact hm439 _ (by simp only [if_pos hc441]) | exact wpc_lle (by repeat (first | exact trivial | refine ⟨rfl, ?_⟩)) (hm439 _ (by simp only [if_pos hc441]))
        · first | exact hm439 _ (by simp only [if_neg hc441]) | exact wpc_lle (by repeat (first | exact trivial | refine ⟨rfl, ?_⟩)) (hm439 _ (by simp only [if_neg hc441]))
  · have h429 := h.2 hc427
    refine wpc_sl (n := 1) (c' := 16) (pc' := 72) (ls' := [some (.ref 0), some (.int x1), some (.int x2), some (.int x3), none]) (st' := [.int x1]) (s' := s) rfl ?_
    refine wpc_if (a := 77) (b := 75) rfl (by decide) rfl rfl (wpc_br (p := x1 < (0 : Int32)) ⟨fun hc442 => ?_, fun hc442 => ?_⟩)
    · have h443 := h429.1 hc442
      refine wpc_sl (n := 1) (c' := 16) (pc' := 78) (ls' := [some (.ref 0), some (.int x1), some (.int x2), some (.int x3), none]) (st' := [.int x2]) (s' := s) rfl ?_
      exact wpc_ret rfl rfl (fun q => absurd q (by decide)) rfl ⟨x2, rfl, h443⟩
    · have h444 := h429.2 hc442
      refine wpc_sl (n := 1) (c' := 16) (pc' := 76) (ls' := [some (.ref 0), some (.int x1), some (.int x2), some (.int x3), none]) (st' := [.int x1]) (s' := s) rfl ?_
      exact wpc_ret rfl rfl (fun q => absurd q (by decide)) rfl ⟨x1, rfl, h444⟩
theorem c38_48 (x1 : Int32) (x2 : Int32) (x3 : Int32) (x4 : Int32) (s : St) (Q : Int32 → St → Prop) (h : ((x2 < (0 : Int32)) → wpcI PP 38 cm38 16 6 [some (.ref 0), some (.int x1), some (.int x3), some (.int (x3 + (1 : Int32))), none] [] s Q) ∧ (¬ (x2 < (0 : Int32)) → inb 16 x2 ∧ ∀ m449, m449 = (if x4 < (gI s 11 (ix x2)) then x3 else x2) → (wpcI PP 38 cm38 16 6 [some (.ref 0), some (.int x1), some (.int m449), some (.int (x3 + (1 : Int32))), none] [] s Q))) : wpcI PP 38 cm38 16 48 [some (.ref 0), some (.int x1), some (.int x2), some (.int x3), some (.int x4)] [] s Q := by
  refine wpc_sl (n := 1) (c' := 16) (pc' := 49) (ls' := [some (.ref 0), some (.int x1), some (.int x2), some (.int x3), some (.int x4)]) (st' := [.int x2]) (s' := s) rfl ?_
  refine wpc_if (a := 63) (b := 52) rfl (by decide) rfl rfl (wpc_br (p := x2 < (0 : Int32)) ⟨fun hc445 => ?_, fun hc445 => ?_⟩)
  · have h446 := h.1 hc445
    refine wpc_sl (n := 4) (c' := 16) (pc' := 6) (ls' := [some (.ref 0), some (.int x1), some (.int x3), some (.int (x3 + (1 : Int32))), some (.int x4)]) (st' := []) (s' := s) rfl ?_
    exact wpc_lle (ls := [some (.ref 0), some (.int x1), some (.int x3), some (.int (x3 + (1 : Int32))), none]) ⟨rfl, rfl, rfl, rfl, trivial⟩ h446
  · have h447 := h.2 hc445
    refine wpc_sl (n := 4) (c' := 16) (pc' := 59) (ls' := [some (.ref 0), some (.int x1), some (.int x2), some (.int x3), some (.int x4)]) (st' := [.int x2, .ref 11, .int x4]) (s' := s) rfl ?_
    refine wpc_ldaI (a := 10) (N := 16) (v := (gI s 11 (ix x2))) rfl rfl (by decide) h447.1 rfl ?_
    have h448 := h447.2
    have hm450 : ∀ m449, m449 = (if x4 < (gI s 11 (ix x2)) then x3 else x2) → wpcI PP 38 cm38 16 65 [some (.ref 0), some (.int x1), some (.int m449), some (.int x3), some (.int x4)] [] s Q := by
      intro m449 em449
      have h451 := h448 m449 em449
      refine wpc_sl (n := 2) (c' := 16) (pc' := 6) (ls' := [some (.ref 0), some (.int x1), some (.int m449), some (.int (x3 + (1 : Int32))), some (.int x4)]) (st' := []) (s' := s) rfl ?_
      exact wpc_lle (ls := [some (.ref 0), some (.int x1), some (.int m449), some (.int (x3 + (1 : Int32))), none]) ⟨rfl, rfl, rfl, rfl, trivial⟩ h451
    refine wpc_icmp (a := 65) (b := 63) rfl (by decide) rfl rfl (wpc_br (p := x4 < (gI s 11 (ix x2))) ⟨fun hc452 => ?_, fun hc452 => ?_⟩)
    · refine wpc_sl (n := 2) (c' := 16) (pc' := 65) (ls' := [some (.ref 0), some (.int x1), some (.int x3), some (.int x3), some (.int x4)]) (st' := []) (s' := s) rfl ?_
      first | exact hm450 _ (by simp only [if_pos hc452]) | exact wpc_lle (by repeat (first | exact trivial | refine ⟨rfl, ?_⟩)) (hm450 _ (by simp only [if_pos hc452]))
    · first | exact hm450 _ (by simp only [if_neg hc452]) | exact wpc_lle (by repeat (first | exact trivial | refine ⟨rfl, ?_⟩)) (hm450 _ (by simp only [if_neg hc452]))
theorem c39_in (a1 : Int32) (s : St) (Q : St → Prop) (h : wpcV PP 39 cm39 16 2 [some (.ref 0), none, some (.int a1)] [] s Q) : calV PP 39 16 [.ref 0, .int a1] s Q := by
  refine cal_of (me := cm39) (ls := [some (.ref 0), some (.int a1), none]) rfl (Nat.le_of_ble_eq_true rfl) rfl ?_
  refine wpc_sl (n := 2) (c' := 16) (pc' := 2) (ls' := [some (.ref 0), some (.int a1), some (.int a1)]) (st' := []) (s' := s) rfl ?_
  exact wpc_lle (ls := [some (.ref 0), none, some (.int a1)]) ⟨rfl, rfl, trivial⟩ h
theorem c39_2 (x2 : Int32) (s : St) (Q : St → Prop) (h : (((x2 + (1 : Int32)) < (gI s 0 30)) → inb 16 (x2 + (1 : Int32)) ∧ inb 16 x2 ∧ inb 16 (x2 + (1 : Int32)) ∧ inb 16 x2 ∧ inb 16 (x2 + (1 : Int32)) ∧ inb 16 x2 ∧ wpcV PP 39 cm39 16 2 [some (.ref 0), none, some (.int (x2 + (1 : Int32)))] [] (sI (sI (sI s 10 (ix x2) (gI s 10 (ix (x2 + (1 : Int32))))) 11 (ix x2) (gI s 11 (ix (x2 + (1 : Int32))))) 12 (ix x2) ((gI s 12 (ix (x2 + (1 : Int32)))) &&& 1)) Q) ∧ (¬ ((x2 + (1 : Int32)) < (gI s 0 30)) → Q (sI s 0 30 ((gI s 0 30) - (1 : Int32))))) : wpcV PP 39 cm39 16 2 [some (.ref 0), none, some (.int x2)] [] s Q := by
  refine wpc_sl (n := 5) (c' := 16) (pc' := 9) (ls' := [some (.ref 0), none, some (.int x2)]) (st' := [.int (gI s 0 30), .int (x2 + (1 : Int32))]) (s' := s) rfl ?_
  refine wpc_icmp (a := 60) (b := 12) rfl (by decide) rfl rfl (wpc_br (p := (x2 + (1 : Int32)) < (gI s 0 30)) ⟨fun hc453 => ?_, fun hc453 => ?_⟩)
  · have h454 := h.1 hc453
    refine wpc_sl (n := 8) (c' := 16) (pc' := 24) (ls' := [some (.ref 0), none, some (.int x2)]) (st' := [.int (x2 + (1 : Int32)), .ref 10, .int x2, .ref 10]) (s' := s) rfl ?_
    refine wpc_ldaI (a := 9) (N := 16) (v := (gI s 10 (ix (x2 + (1 : Int32))))) rfl rfl (by decide) h454.1 rfl ?_
    have h456 := h454.2
    refine wpc_staI (a := 9) (N := 16) (s' := (sI s 10 (ix x2) (gI s 10 (ix (x2 + (1 : Int32)))))) rfl rfl (by decide) h456.1 rfl ?_
    have h457 := h456.2
    refine wpc_sl (n := 8) (c' := 16) (pc' := 38) (ls' := [some (.ref 0), none, some (.int x2)]) (st' := [.int (x2 + (1 : Int32)), .ref 11, .int x2, .ref 11]) (s' := (sI s 10 (ix x2) (gI s 10 (ix (x2 + (1 : Int32)))))) rfl ?_
    refine wpc_ldaI (a := 10) (N := 16) (v := (gI s 11 (ix (x2 + (1 : Int32))))) rfl rfl (by decide) h457.1 rfl ?_
    have h458 := h457.2
    refine wpc_staI (a := 10) (N := 16) (s' := (sI (sI s 10 (ix x2) (gI s 10 (ix (x2 + (1 : Int32))))) 11 (ix x2) (gI s 11 (ix (x2 + (1 : Int32)))))) rfl rfl (by decide) h458.1 rfl ?_
    have h459 := h458.2
    refine wpc_sl (n := 8) (c' := 16) (pc' := 52) (ls' := [some (.ref 0), none, some (.int x2)]) (st' := [.int (x2 + (1 : Int32)), .ref 12, .int x2, .ref 12]) (s' := (sI (sI s 10 (ix x2) (gI s 10 (ix (x2 + (1 : Int32))))) 11 (ix x2) (gI s 11 (ix (x2 + (1 : Int32)))))) rfl ?_
    refine wpc_ldaZ (a := 11) (N := 16) (v := (gI s 12 (ix (x2 + (1 : Int32))))) rfl rfl (by decide) h459.1 rfl ?_
    have h460 := h459.2
    refine wpc_staZ (a := 11) (N := 16) (s' := (sI (sI (sI s 10 (ix x2) (gI s 10 (ix (x2 + (1 : Int32))))) 11 (ix x2) (gI s 11 (ix (x2 + (1 : Int32))))) 12 (ix x2) ((gI s 12 (ix (x2 + (1 : Int32)))) &&& 1))) rfl rfl (by decide) h460.1 rfl ?_
    have h461 := h460.2
    refine wpc_sl (n := 2) (c' := 16) (pc' := 2) (ls' := [some (.ref 0), none, some (.int (x2 + (1 : Int32)))]) (st' := []) (s' := (sI (sI (sI s 10 (ix x2) (gI s 10 (ix (x2 + (1 : Int32))))) 11 (ix x2) (gI s 11 (ix (x2 + (1 : Int32))))) 12 (ix x2) ((gI s 12 (ix (x2 + (1 : Int32)))) &&& 1))) rfl ?_
    exact h461
  · have h455 := h.2 hc453
    refine wpc_sl (n := 6) (c' := 16) (pc' := 70) (ls' := [some (.ref 0), none, some (.int x2)]) (st' := []) (s' := (sI s 0 30 ((gI s 0 30) - (1 : Int32)))) rfl ?_
    exact wpc_ret rfl rfl (fun q => absurd q (by decide)) rfl ⟨rfl, h455⟩
theorem c22_in (a1 : Int32) (s : St) (Q : Int32 → St → Prop) (h : ((a1 < (0 : Int32)) → Q (0 : Int32) s) ∧ (¬ (a1 < (0 : Int32)) → ((a1 < (gI s 0 15)) → Q (1 : Int32) s) ∧ (¬ (a1 < (gI s 0 15)) → Q (0 : Int32) s))) : calI PP 22 16 [.ref 0, .int a1] s Q := by
  refine cal_of (me := cm22) (ls := [some (.ref 0), some (.int a1)]) rfl (Nat.le_of_ble_eq_true rfl) rfl ?_
  refine wpc_sl (n := 1) (c' := 16) (pc' := 1) (ls' := [some (.ref 0), some (.int a1)]) (st' := [.int a1]) (s' := s) rfl ?_
  refine wpc_if (a := 16) (b := 4) rfl (by decide) rfl rfl (wpc_br (p := a1 < (0 : Int32)) ⟨fun hc462 => ?_, fun hc462 => ?_⟩)
  · have h463 := h.1 hc462
    refine wpc_sl (n := 1) (c' := 16) (pc' := 17) (ls' := [some (.ref 0), some (.int a1)]) (st' := [.int (0 : Int32)]) (s' := s) rfl ?_
    exact wpc_ret rfl rfl (fun q => absurd q (by decide)) rfl ⟨(0 : Int32), rfl, h463⟩
  · have h464 := h.2 hc462
    refine wpc_sl (n := 3) (c' := 16) (pc' := 9) (ls' := [some (.ref 0), some (.int a1)]) (st' := [.int (gI s 0 15), .int a1]) (s' := s) rfl ?_
    refine wpc_icmp (a := 16) (b := 12) rfl (by decide) rfl rfl (wpc_br (p := a1 < (gI s 0 15)) ⟨fun hc465 => ?_, fun hc465 => ?_⟩)
    · have h466 := h464.1 hc465
      refine wpc_sl (n := 2) (c' := 16) (pc' := 17) (ls' := [some (.ref 0), some (.int a1)]) (st' := [.int (1 : Int32)]) (s' := s) rfl ?_
      exact wpc_ret rfl rfl (fun q => absurd q (by decide)) rfl ⟨(1 : Int32), rfl, h466⟩
    · have h467 := h464.2 hc465
      refine wpc_sl (n := 1) (c' := 16) (pc' := 17) (ls' := [some (.ref 0), some (.int a1)]) (st' := [.int (0 : Int32)]) (s' := s) rfl ?_
      exact wpc_ret rfl rfl (fun q => absurd q (by decide)) rfl ⟨(0 : Int32), rfl, h467⟩
theorem c41_in (a1 : Int32) (a2 : Int32) (a3 : Int32) (s : St) (Q : St → Prop) (h : ((a3 = (0 : Int32)) → wpcV PP 41 cm41 16 62 [some (.ref 0), some (.int a1), none, none, some (.int (a1 * (4 : Int32))), some (.int (a2 * (4 : Int32))), some (.int (0 : Int32))] [] s Q) ∧ (¬ (a3 = (0 : Int32)) → wpcV PP 41 cm41 16 17 [some (.ref 0), some (.int a1), none, none, some (.int (a1 * (4 : Int32))), some (.int (a2 * (4 : Int32))), some (.int (0 : Int32))] [] s Q)) : calV PP 41 16 [.ref 0, .int a1, .int a2, .int a3] s Q := by
  refine cal_of (me := cm41) (ls := [some (.ref 0), some (.int a1), some (.int a2), some (.int a3), none, none, none]) rfl (Nat.le_of_ble_eq_true rfl) rfl ?_
  refine wpc_sl (n := 9) (c' := 16) (pc' := 11) (ls' := [some (.ref 0), some (.int a1), some (.int a2), some (.int a3), some (.int (a1 * (4 : Int32))), some (.int (a2 * (4 : Int32))), none]) (st' := [.int a3]) (s' := s) rfl ?_
  refine wpc_if (a := 59) (b := 14) rfl (by decide) rfl rfl (wpc_br (p := a3 = (0 : Int32)) ⟨fun hc468 => ?_, fun hc468 => ?_⟩)
  · have h469 := h.1 hc468
    refine wpc_sl (n := 2) (c' := 16) (pc' := 62) (ls' := [some (.ref 0), some (.int a1), some (.int a2), some (.int a3), some (.int (a1 * (4 : Int32))), some (.int (a2 * (4 : Int32))), some (.int (0 : Int32))]) (st' := []) (s' := s) rfl ?_
    exact wpc_lle (ls := [some (.ref 0), some (.int a1), none, none, some (.int (a1 * (4 : Int32))), some (.int (a2 * (4 : Int32))), some (.int (0 : Int32))]) ⟨rfl, rfl, rfl, rfl, rfl, trivial⟩ h469
  · have h470 := h.2 hc468
    refine wpc_sl (n := 2) (c' := 16) (pc' := 17) (ls' := [some (.ref 0), some (.int a1), some (.int a2), some (.int a3), some (.int (a1 * (4 : Int32))), some (.int (a2 * (4 : Int32))), some (.int (0 : Int32))]) (st' := []) (s' := s) rfl ?_
    exact wpc_lle (ls := [some (.ref 0), some (.int a1), none, none, some (.int (a1 * (4 : Int32))), some (.int (a2 * (4 : Int32))), some (.int (0 : Int32))]) ⟨rfl, rfl, rfl, rfl, rfl, trivial⟩ h470
theorem c41_62 (x1 : Int32) (x4 : Int32) (x5 : Int32) (x6 : Int32) (s : St) (Q : St → Prop) (h : ((x6 < (4 : Int32)) → inb 128 (x5 + x6) ∧ inb 32 (x4 + x6) ∧ wpcV PP 41 cm41 16 62 [some (.ref 0), some (.int x1), none, none, some (.int x4), some (.int x5), some (.int (x6 + (1 : Int32)))] [] (sI s 3 (ix (x4 + x6)) (gI s 1 (ix (x5 + x6)))) Q) ∧ (¬ (x6 < (4 : Int32)) → inb 8 x1 ∧ inb 8 x1 ∧ Q (sI (sI s 5 (ix x1) (1 : Int32)) 6 (ix x1) (0 : Int32)))) : wpcV PP 41 cm41 16 62 [some (.ref 0), some (.int x1), none, none, some (.int x4), some (.int x5), some (.int x6)] [] s Q := by
  refine wpc_sl (n := 2) (c' := 16) (pc' := 65) (ls' := [some (.ref 0), some (.int x1), none, none, some (.int x4), some (.int x5), some (.int x6)]) (st' := [.int (4 : Int32), .int x6]) (s' := s) rfl ?_
  refine wpc_icmp (a := 94) (b := 68) rfl (by decide) rfl rfl (wpc_br (p := x6 < (4 : Int32)) ⟨fun hc471 => ?_, fun hc471 => ?_⟩)
  · have h472 := h.1 hc471
    refine wpc_sl (n := 10) (c' := 16) (pc' := 86) (ls' := [some (.ref 0), some (.int x1), none, none, some (.int x4), some (.int x5), some (.int x6)]) (st' := [.int (x5 + x6), .ref 1, .int (x4 + x6), .ref 3]) (s' := s) rfl ?_
    refine wpc_ldaI (a := 0) (N := 128) (v := (gI s 1 (ix (x5 + x6)))) rfl rfl (by decide) h472.1 rfl ?_
    have h474 := h472.2
    refine wpc_staI (a := 2) (N := 32) (s' := (sI s 3 (ix (x4 + x6)) (gI s 1 (ix (x5 + x6))))) rfl rfl (by decide) h474.1 rfl ?_
    have h475 := h474.2
    refine wpc_sl (n := 2) (c' := 16) (pc' := 62) (ls' := [some (.ref 0), some (.int x1), none, none, some (.int x4), some (.int x5), some (.int (x6 + (1 : Int32)))]) (st' := []) (s' := (sI s 3 (ix (x4 + x6)) (gI s 1 (ix (x5 + x6))))) rfl ?_
    exact h475
  · have h473 := h.2 hc471
    refine wpc_sl (n := 4) (c' := 16) (pc' := 100) (ls' := [some (.ref 0), some (.int x1), none, none, some (.int x4), some (.int x5), some (.int x6)]) (st' := [.int (1 : Int32), .int x1, .ref 5]) (s' := s) rfl ?_
    refine wpc_staZ (a := 4) (N := 8) (s' := (sI s 5 (ix x1) (1 : Int32))) rfl rfl (by decide) h473.1 rfl ?_
    have h476 := h473.2
    refine wpc_sl (n := 4) (c' := 16) (pc' := 107) (ls' := [some (.ref 0), some (.int x1), none, none, some (.int x4), some (.int x5), some (.int x6)]) (st' := [.int (0 : Int32), .int x1, .ref 6]) (s' := (sI s 5 (ix x1) (1 : Int32))) rfl ?_
    refine wpc_staZ (a := 5) (N := 8) (s' := (sI (sI s 5 (ix x1) (1 : Int32)) 6 (ix x1) (0 : Int32))) rfl rfl (by decide) h476.1 rfl ?_
    have h477 := h476.2
    exact wpc_ret rfl rfl (fun q => absurd q (by decide)) rfl ⟨rfl, h477⟩
theorem c41_17 (x1 : Int32) (x4 : Int32) (x5 : Int32) (x6 : Int32) (s : St) (Q : St → Prop) (h : ((x6 < (4 : Int32)) → inb 32 (x4 + x6) ∧ inb 128 (x5 + x6) ∧ wpcV PP 41 cm41 16 17 [some (.ref 0), some (.int x1), none, none, some (.int x4), some (.int x5), some (.int (x6 + (1 : Int32)))] [] (sI s 1 (ix (x5 + x6)) (gI s 3 (ix (x4 + x6)))) Q) ∧ (¬ (x6 < (4 : Int32)) → inb 8 x1 ∧ Q (sI s 6 (ix x1) (0 : Int32)))) : wpcV PP 41 cm41 16 17 [some (.ref 0), some (.int x1), none, none, some (.int x4), some (.int x5), some (.int x6)] [] s Q := by
  refine wpc_sl (n := 2) (c' := 16) (pc' := 20) (ls' := [some (.ref 0), some (.int x1), none, none, some (.int x4), some (.int x5), some (.int x6)]) (st' := [.int (4 : Int32), .int x6]) (s' := s) rfl ?_
  refine wpc_icmp (a := 49) (b := 23) rfl (by decide) rfl rfl (wpc_br (p := x6 < (4 : Int32)) ⟨fun hc478 => ?_, fun hc478 => ?_⟩)
  · have h479 := h.1 hc478
    refine wpc_sl (n := 10) (c' := 16) (pc' := 41) (ls' := [some (.ref 0), some (.int x1), none, none, some (.int x4), some (.int x5), some (.int x6)]) (st' := [.int (x4 + x6), .ref 3, .int (x5 + x6), .ref 1]) (s' := s) rfl ?_
    refine wpc_ldaI (a := 2) (N := 32) (v := (gI s 3 (ix (x4 + x6)))) rfl rfl (by decide) h479.1 rfl ?_
    have h481 := h479.2
    refine wpc_staI (a := 0) (N := 128) (s' := (sI s 1 (ix (x5 + x6)) (gI s 3 (ix (x4 + x6))))) rfl rfl (by decide) h481.1 rfl ?_
    have h482 := h481.2
    refine wpc_sl (n := 2) (c' := 16) (pc' := 17) (ls' := [some (.ref 0), some (.int x1), none, none, some (.int x4), some (.int x5), some (.int (x6 + (1 : Int32)))]) (st' := []) (s' := (sI s 1 (ix (x5 + x6)) (gI s 3 (ix (x4 + x6))))) rfl ?_
    exact h482
  · have h480 := h.2 hc478
    refine wpc_sl (n := 4) (c' := 16) (pc' := 55) (ls' := [some (.ref 0), some (.int x1), none, none, some (.int x4), some (.int x5), some (.int x6)]) (st' := [.int (0 : Int32), .int x1, .ref 6]) (s' := s) rfl ?_
    refine wpc_staZ (a := 5) (N := 8) (s' := (sI s 6 (ix x1) (0 : Int32))) rfl rfl (by decide) h480.1 rfl ?_
    have h483 := h480.2
    refine wpc_sl (n := 1) (c' := 16) (pc' := 108) (ls' := [some (.ref 0), some (.int x1), none, none, some (.int x4), some (.int x5), some (.int x6)]) (st' := []) (s' := (sI s 6 (ix x1) (0 : Int32))) rfl ?_
    exact wpc_ret rfl rfl (fun q => absurd q (by decide)) rfl ⟨rfl, h483⟩
theorem c42_in (a1 : Int32) (s : St) (Q : St → Prop) (h : wpcV PP 42 cm42 16 2 [some (.ref 0), some (.int a1), some (.int (0 : Int32))] [] s Q) : calV PP 42 16 [.ref 0, .int a1] s Q := by
  refine cal_of (me := cm42) (ls := [some (.ref 0), some (.int a1), none]) rfl (Nat.le_of_ble_eq_true rfl) rfl ?_
  refine wpc_sl (n := 2) (c' := 16) (pc' := 2) (ls' := [some (.ref 0), some (.int a1), some (.int (0 : Int32))]) (st' := []) (s' := s) rfl ?_
  exact h
theorem c42_2 (x1 : Int32) (x2 : Int32) (s : St) (Q : St → Prop) (h : ((x2 < (gI s 0 16)) → inb 4 x2 ∧ (((gI s 16 (ix x2)) = x1) → inb 4 x2 ∧ wpcV PP 42 cm42 16 27 [some (.ref 0), some (.int x1), some (.int x2)] [] (sI s 16 (ix x2) (-1 : Int32)) Q) ∧ (¬ ((gI s 16 (ix x2)) = x1) → wpcV PP 42 cm42 16 27 [some (.ref 0), some (.int x1), some (.int x2)] [] s Q)) ∧ (¬ (x2 < (gI s 0 16)) → Q s)) : wpcV PP 42 cm42 16 2 [some (.ref 0), some (.int x1), some (.int x2)] [] s Q := by
  refine wpc_sl (n := 3) (c' := 16) (pc' := 7) (ls' := [some (.ref 0), some (.int x1), some (.int x2)]) (st' := [.int (gI s 0 16), .int x2]) (s' := s) rfl ?_
  refine wpc_icmp (a := 33) (b := 10) rfl (by decide) rfl rfl (wpc_br (p := x2 < (gI s 0 16)) ⟨fun hc484 => ?_, fun hc484 => ?_⟩)
  · have h485 := h.1 hc484
    refine wpc_sl (n := 3) (c' := 16) (pc' := 15) (ls' := [some (.ref 0), some (.int x1), some (.int x2)]) (st' := [.int x2, .ref 16]) (s' := s) rfl ?_
    refine wpc_ldaI (a := 15) (N := 4) (v := (gI s 16 (ix x2))) rfl rfl (by decide) h485.1 rfl ?_
    have h487 := h485.2
    refine wpc_sl (n := 1) (c' := 16) (pc' := 17) (ls' := [some (.ref 0), some (.int x1), some (.int x2)]) (st' := [.int x1, .int (gI s 16 (ix x2))]) (s' := s) rfl ?_
    refine wpc_icmp (a := 27) (b := 20) rfl (by decide) rfl rfl (wpc_br (p := (gI s 16 (ix x2)) = x1) ⟨fun hc488 => ?_, fun hc488 => ?_⟩)
    · have h489 := h487.1 hc488
      refine wpc_sl (n := 4) (c' := 16) (pc' := 26) (ls' := [some (.ref 0), some (.int x1), some (.int x2)]) (st' := [.int (-1 : Int32), .int x2, .ref 16]) (s' := s) rfl ?_
      refine wpc_staI (a := 15) (N := 4) (s' := (sI s 16 (ix x2) (-1 : Int32))) rfl rfl (by decide) h489.1 rfl ?_
      have h491 := h489.2
      exact h491
    · have h490 := h487.2 hc488
      exact h490
  · have h486 := h.2 hc484
    exact wpc_ret rfl rfl (fun q => absurd q (by decide)) rfl ⟨rfl, h486⟩
theorem c42_27 (x1 : Int32) (x2 : Int32) (s : St) (Q : St → Prop) (h : wpcV PP 42 cm42 16 2 [some (.ref 0), some (.int x1), some (.int (x2 + (1 : Int32)))] [] s Q) : wpcV PP 42 cm42 16 27 [some (.ref 0), some (.int x1), some (.int x2)] [] s Q := by
  refine wpc_sl (n := 2) (c' := 16) (pc' := 2) (ls' := [some (.ref 0), some (.int x1), some (.int (x2 + (1 : Int32)))]) (st' := []) (s' := s) rfl ?_
  exact h
theorem c40_in  (s : St) (Q : Int32 → St → Prop) (h : calI PP 38 16 [.ref 0] s (fun v397 s396 => ((v397 < (0 : Int32)) → Q (0 : Int32) s396) ∧ (¬ (v397 < (0 : Int32)) → inb 16 v397 ∧ inb 16 v397 ∧ inb 16 v397 ∧ calV PP 39 16 [.ref 0, .int v397] s396 (fun s405 => calI PP 22 16 [.ref 0, .int (gI s396 10 (ix v397))] s405 (fun v409 s408 => ((v409 = (0 : Int32)) → Q (1 : Int32) s408) ∧ (¬ (v409 = (0 : Int32)) → (((gI s396 11 (ix v397)) < (0 : Int32)) → Q (1 : Int32) s408) ∧ (¬ ((gI s396 11 (ix v397)) < (0 : Int32)) → (((gI s396 11 (ix v397)) < (32 : Int32)) → calV PP 41 16 [.ref 0, .int (gI s396 10 (ix v397)), .int (gI s396 11 (ix v397)), .int (gI s396 12 (ix v397))] s408 (fun s420 => inb 8 (gI s396 10 (ix v397)) ∧ calV PP 42 16 [.ref 0, .int (gI s396 10 (ix v397))] (sI (sI s420 0 31 (gI s396 11 (ix v397))) 7 (ix (gI s396 10 (ix v397))) (0 : Int32)) (fun s424 => Q (1 : Int32) s424))) ∧ (¬ ((gI s396 11 (ix v397)) < (32 : Int32)) → Q (1 : Int32) s408)))))))) : calI PP 40 16 [.ref 0] s Q := by
  refine cal_of (me := cm40) (ls := [some (.ref 0), none, none, none, none]) rfl (Nat.le_of_ble_eq_true rfl) rfl ?_
  refine wpc_sl (n := 1) (c' := 16) (pc' := 1) (ls' := [some (.ref 0), none, none, none, none]) (st' := [.ref 0]) (s' := s) rfl ?_
  refine wpc_callI (m' := 38) (me' := cm38) (as := []) (r := []) rfl rfl rfl rfl rfl ⟨by decide, (by first | decide | exact Nat.le_of_ble_eq_true rfl), (by first | decide | exact Nat.le_of_ble_eq_true rfl), rfl⟩ (calI.mono h fun v397 s396 h398 => ?_)
  refine wpc_sl (n := 2) (c' := 16) (pc' := 6) (ls' := [some (.ref 0), some (.int v397), none, none, none]) (st' := [.int v397]) (s' := s396) rfl ?_
  refine wpc_if (a := 11) (b := 9) rfl (by decide) rfl rfl (wpc_br (p := v397 < (0 : Int32)) ⟨fun hc399 => ?_, fun hc399 => ?_⟩)
  · have h400 := h398.1 hc399
    refine wpc_sl (n := 1) (c' := 16) (pc' := 10) (ls' := [some (.ref 0), some (.int v397), none, none, none]) (st' := [.int (0 : Int32)]) (s' := s396) rfl ?_
    exact wpc_ret rfl rfl (fun q => absurd q (by decide)) rfl ⟨(0 : Int32), rfl, h400⟩
  · have h401 := h398.2 hc399
    refine wpc_sl (n := 3) (c' := 16) (pc' := 16) (ls' := [some (.ref 0), some (.int v397), none, none, none]) (st' := [.int v397, .ref 10]) (s' := s396) rfl ?_
    refine wpc_ldaI (a := 9) (N := 16) (v := (gI s396 10 (ix v397))) rfl rfl (by decide) h401.1 rfl ?_
    have h402 := h401.2
    refine wpc_sl (n := 4) (c' := 16) (pc' := 23) (ls' := [some (.ref 0), some (.int v397), some (.int (gI s396 10 (ix v397))), none, none]) (st' := [.int v397, .ref 11]) (s' := s396) rfl ?_
    refine wpc_ldaI (a := 10) (N := 16) (v := (gI s396 11 (ix v397))) rfl rfl (by decide) h402.1 rfl ?_
    have h403 := h402.2
    refine wpc_sl (n := 4) (c' := 16) (pc' := 30) (ls' := [some (.ref 0), some (.int v397), some (.int (gI s396 10 (ix v397))), some (.int (gI s396 11 (ix v397))), none]) (st' := [.int v397, .ref 12]) (s' := s396) rfl ?_
    refine wpc_ldaZ (a := 11) (N := 16) (v := (gI s396 12 (ix v397))) rfl rfl (by decide) h403.1 rfl ?_
    have h404 := h403.2
    refine wpc_sl (n := 3) (c' := 16) (pc' := 35) (ls' := [some (.ref 0), some (.int v397), some (.int (gI s396 10 (ix v397))), some (.int (gI s396 11 (ix v397))), some (.int (gI s396 12 (ix v397)))]) (st' := [.int v397, .ref 0]) (s' := s396) rfl ?_
    refine wpc_callV (m' := 39) (me' := cm39) (as := [.int v397]) (r := []) rfl rfl rfl rfl rfl ⟨by decide, (by first | decide | exact Nat.le_of_ble_eq_true rfl), (by first | decide | exact Nat.le_of_ble_eq_true rfl), rfl⟩ (calV.mono h404 fun s405 h407 => ?_)
    refine wpc_sl (n := 2) (c' := 16) (pc' := 40) (ls' := [some (.ref 0), some (.int v397), some (.int (gI s396 10 (ix v397))), some (.int (gI s396 11 (ix v397))), some (.int (gI s396 12 (ix v397)))]) (st' := [.int (gI s396 10 (ix v397)), .ref 0]) (s' := s405) rfl ?_
    refine wpc_callI (m' := 22) (me' := cm22) (as := [.int (gI s396 10 (ix v397))]) (r := []) rfl rfl rfl rfl rfl ⟨by decide, (by first | decide | exact Nat.le_of_ble_eq_true rfl), (by first | decide | exact Nat.le_of_ble_eq_true rfl), rfl⟩ (calI.mono h407 fun v409 s408 h410 => ?_)
    refine wpc_if (a := 56) (b := 46) rfl (by decide) rfl rfl (wpc_br (p := v409 = (0 : Int32)) ⟨fun hc411 => ?_, fun hc411 => ?_⟩)
    · have h412 := h410.1 hc411
      refine wpc_sl (n := 1) (c' := 16) (pc' := 57) (ls' := [some (.ref 0), some (.int v397), some (.int (gI s396 10 (ix v397))), some (.int (gI s396 11 (ix v397))), some (.int (gI s396 12 (ix v397)))]) (st' := [.int (1 : Int32)]) (s' := s408) rfl ?_
      exact wpc_ret rfl rfl (fun q => absurd q (by decide)) rfl ⟨(1 : Int32), rfl, h412⟩
    · have h413 := h410.2 hc411
      refine wpc_sl (n := 1) (c' := 16) (pc' := 47) (ls' := [some (.ref 0), some (.int v397), some (.int (gI s396 10 (ix v397))), some (.int (gI s396 11 (ix v397))), some (.int (gI s396 12 (ix v397)))]) (st' := [.int (gI s396 11 (ix v397))]) (s' := s408) rfl ?_
      refine wpc_if (a := 56) (b := 50) rfl (by decide) rfl rfl (wpc_br (p := (gI s396 11 (ix v397)) < (0 : Int32)) ⟨fun hc414 => ?_, fun hc414 => ?_⟩)
      · have h415 := h413.1 hc414
        refine wpc_sl (n := 1) (c' := 16) (pc' := 57) (ls' := [some (.ref 0), some (.int v397), some (.int (gI s396 10 (ix v397))), some (.int (gI s396 11 (ix v397))), some (.int (gI s396 12 (ix v397)))]) (st' := [.int (1 : Int32)]) (s' := s408) rfl ?_
        exact wpc_ret rfl rfl (fun q => absurd q (by decide)) rfl ⟨(1 : Int32), rfl, h415⟩
      · have h416 := h413.2 hc414
        refine wpc_sl (n := 2) (c' := 16) (pc' := 53) (ls' := [some (.ref 0), some (.int v397), some (.int (gI s396 10 (ix v397))), some (.int (gI s396 11 (ix v397))), some (.int (gI s396 12 (ix v397)))]) (st' := [.int (32 : Int32), .int (gI s396 11 (ix v397))]) (s' := s408) rfl ?_
        refine wpc_icmp (a := 58) (b := 56) rfl (by decide) rfl rfl (wpc_br (p := (gI s396 11 (ix v397)) < (32 : Int32)) ⟨fun hc417 => ?_, fun hc417 => ?_⟩)
        · have h418 := h416.1 hc417
          refine wpc_sl (n := 4) (c' := 16) (pc' := 63) (ls' := [some (.ref 0), some (.int v397), some (.int (gI s396 10 (ix v397))), some (.int (gI s396 11 (ix v397))), some (.int (gI s396 12 (ix v397)))]) (st' := [.int (gI s396 12 (ix v397)), .int (gI s396 11 (ix v397)), .int (gI s396 10 (ix v397)), .ref 0]) (s' := s408) rfl ?_
          refine wpc_callV (m' := 41) (me' := cm41) (as := [.int (gI s396 10 (ix v397)), .int (gI s396 11 (ix v397)), .int (gI s396 12 (ix v397))]) (r := []) rfl rfl rfl rfl rfl ⟨by decide, (by first | decide | exact Nat.le_of_ble_eq_true rfl), (by first | decide | exact Nat.le_of_ble_eq_true rfl), rfl⟩ (calV.mono h418 fun s420 h422 => ?_)
          refine wpc_sl (n := 7) (c' := 16) (pc' := 77) (ls' := [some (.ref 0), some (.int v397), some (.int (gI s396 10 (ix v397))), some (.int (gI s396 11 (ix v397))), some (.int (gI s396 12 (ix v397)))]) (st' := [.int (0 : Int32), .int (gI s396 10 (ix v397)), .ref 7]) (s' := (sI s420 0 31 (gI s396 11 (ix v397)))) rfl ?_
          refine wpc_staZ (a := 6) (N := 8) (s' := (sI (sI s420 0 31 (gI s396 11 (ix v397))) 7 (ix (gI s396 10 (ix v397))) (0 : Int32))) rfl rfl (by decide) h422.1 rfl ?_
          have h423 := h422.2
          refine wpc_sl (n := 2) (c' := 16) (pc' := 80) (ls' := [some (.ref 0), some (.int v397), some (.int (gI s396 10 (ix v397))), some (.int (gI s396 11 (ix v397))), some (.int (gI s396 12 (ix v397)))]) (st' := [.int (gI s396 10 (ix v397)), .ref 0]) (s' := (sI (sI s420 0 31 (gI s396 11 (ix v397))) 7 (ix (gI s396 10 (ix v397))) (0 : Int32))) rfl ?_
          refine wpc_callV (m' := 42) (me' := cm42) (as := [.int (gI s396 10 (ix v397))]) (r := []) rfl rfl rfl rfl rfl ⟨by decide, (by first | decide | exact Nat.le_of_ble_eq_true rfl), (by first | decide | exact Nat.le_of_ble_eq_true rfl), rfl⟩ (calV.mono h423 fun s424 h426 => ?_)
          refine wpc_sl (n := 1) (c' := 16) (pc' := 84) (ls' := [some (.ref 0), some (.int v397), some (.int (gI s396 10 (ix v397))), some (.int (gI s396 11 (ix v397))), some (.int (gI s396 12 (ix v397)))]) (st' := [.int (1 : Int32)]) (s' := s424) rfl ?_
          exact wpc_ret rfl rfl (fun q => absurd q (by decide)) rfl ⟨(1 : Int32), rfl, h426⟩
        · have h419 := h416.2 hc417
          refine wpc_sl (n := 1) (c' := 16) (pc' := 57) (ls' := [some (.ref 0), some (.int v397), some (.int (gI s396 10 (ix v397))), some (.int (gI s396 11 (ix v397))), some (.int (gI s396 12 (ix v397)))]) (st' := [.int (1 : Int32)]) (s' := s408) rfl ?_
          exact wpc_ret rfl rfl (fun q => absurd q (by decide)) rfl ⟨(1 : Int32), rfl, h419⟩
theorem c36_in (a1 : Int32) (a2 : Int32) (a3 : Int32) (s : St) (Q : Int32 → St → Prop) (h : (((gI s 0 30) < (16 : Int32)) → inb 16 (gI s 0 30) ∧ inb 16 (gI s 0 30) ∧ inb 16 (gI s 0 30) ∧ Q (1 : Int32) (sI (sI (sI (sI s 10 (ix (gI s 0 30)) a1) 11 (ix (gI s 0 30)) a2) 12 (ix (gI s 0 30)) (a3 &&& 1)) 0 30 ((gI s 0 30) + (1 : Int32)))) ∧ (¬ ((gI s 0 30) < (16 : Int32)) → Q (0 : Int32) s)) : calI PP 36 16 [.ref 0, .int a1, .int a2, .int a3] s Q := by
  refine cal_of (me := cm36) (ls := [some (.ref 0), some (.int a1), some (.int a2), some (.int a3)]) rfl (Nat.le_of_ble_eq_true rfl) rfl ?_
  refine wpc_sl (n := 3) (c' := 16) (pc' := 6) (ls' := [some (.ref 0), some (.int a1), some (.int a2), some (.int a3)]) (st' := [.int (16 : Int32), .int (gI s 0 30)]) (s' := s) rfl ?_
  refine wpc_icmp (a := 11) (b := 9) rfl (by decide) rfl rfl (wpc_br (p := (gI s 0 30) < (16 : Int32)) ⟨fun hc492 => ?_, fun hc492 => ?_⟩)
  · have h493 := h.1 hc492
    refine wpc_sl (n := 5) (c' := 16) (pc' := 20) (ls' := [some (.ref 0), some (.int a1), some (.int a2), some (.int a3)]) (st' := [.int a1, .int (gI s 0 30), .ref 10]) (s' := s) rfl ?_
    refine wpc_staI (a := 9) (N := 16) (s' := (sI s 10 (ix (gI s 0 30)) a1)) rfl rfl (by decide) h493.1 rfl ?_
    have h495 := h493.2
    refine wpc_sl (n := 5) (c' := 16) (pc' := 30) (ls' := [some (.ref 0), some (.int a1), some (.int a2), some (.int a3)]) (st' := [.int a2, .int (gI s 0 30), .ref 11]) (s' := (sI s 10 (ix (gI s 0 30)) a1)) rfl ?_
    refine wpc_staI (a := 10) (N := 16) (s' := (sI (sI s 10 (ix (gI s 0 30)) a1) 11 (ix (gI s 0 30)) a2)) rfl rfl (by decide) h495.1 rfl ?_
    have h496 := h495.2
    refine wpc_sl (n := 5) (c' := 16) (pc' := 40) (ls' := [some (.ref 0), some (.int a1), some (.int a2), some (.int a3)]) (st' := [.int a3, .int (gI s 0 30), .ref 12]) (s' := (sI (sI s 10 (ix (gI s 0 30)) a1) 11 (ix (gI s 0 30)) a2)) rfl ?_
    refine wpc_staZ (a := 11) (N := 16) (s' := (sI (sI (sI s 10 (ix (gI s 0 30)) a1) 11 (ix (gI s 0 30)) a2) 12 (ix (gI s 0 30)) (a3 &&& 1))) rfl rfl (by decide) h496.1 rfl ?_
    have h497 := h496.2
    refine wpc_sl (n := 7) (c' := 16) (pc' := 52) (ls' := [some (.ref 0), some (.int a1), some (.int a2), some (.int a3)]) (st' := [.int (1 : Int32)]) (s' := (sI (sI (sI (sI s 10 (ix (gI s 0 30)) a1) 11 (ix (gI s 0 30)) a2) 12 (ix (gI s 0 30)) (a3 &&& 1)) 0 30 ((gI s 0 30) + (1 : Int32)))) rfl ?_
    exact wpc_ret rfl rfl (fun q => absurd q (by decide)) rfl ⟨(1 : Int32), rfl, h497⟩
  · have h494 := h.2 hc492
    refine wpc_sl (n := 1) (c' := 16) (pc' := 10) (ls' := [some (.ref 0), some (.int a1), some (.int a2), some (.int a3)]) (st' := [.int (0 : Int32)]) (s' := s) rfl ?_
    exact wpc_ret rfl rfl (fun q => absurd q (by decide)) rfl ⟨(0 : Int32), rfl, h494⟩
theorem c33_in  (s : St) (Q : Int32 → St → Prop) (h : wpcI PP 33 cm33 16 2 [some (.ref 0), some (.int (0 : Int32)), none, none] [] s Q) : calI PP 33 16 [.ref 0] s Q := by
  refine cal_of (me := cm33) (ls := [some (.ref 0), none, none, none]) rfl (Nat.le_of_ble_eq_true rfl) rfl ?_
  refine wpc_sl (n := 2) (c' := 16) (pc' := 2) (ls' := [some (.ref 0), some (.int (0 : Int32)), none, none]) (st' := []) (s' := s) rfl ?_
  exact h
theorem c33_2 (x1 : Int32) (s : St) (Q : Int32 → St → Prop) (h : ((x1 < (64 : Int32)) → calI PP 34 16 [.ref 0] s (fun v345 s344 => ((v345 < (0 : Int32)) → calI PP 40 16 [.ref 0] s344 (fun v351 s350 => ((v351 = (0 : Int32)) → Q (-1 : Int32) s350) ∧ (¬ (v351 = (0 : Int32)) → wpcI PP 33 cm33 16 84 [some (.ref 0), some (.int x1), none, none] [] s350 Q))) ∧ (¬ (v345 < (0 : Int32)) → inb 8 v345 ∧ (((gI s344 6 (ix v345)) = (0 : Int32)) → Q v345 s344) ∧ (¬ ((gI s344 6 (ix v345)) = (0 : Int32)) → inb 8 v345 ∧ (((gI s344 5 (ix v345)) = (0 : Int32)) → Q v345 s344) ∧ (¬ ((gI s344 5 (ix v345)) = (0 : Int32)) → inb 8 v345 ∧ (((gI s344 4 (ix v345)) < (0 : Int32)) → Q v345 s344) ∧ (¬ ((gI s344 4 (ix v345)) < (0 : Int32)) → inb 8 v345 ∧ calI PP 36 16 [.ref 0, .int v345, .int (gI s344 4 (ix v345)), .int (1 : Int32)] s344 (fun v370 s369 => ((v370 = (0 : Int32)) → Q (-1 : Int32) s369) ∧ (¬ (v370 = (0 : Int32)) → inb 8 v345 ∧ wpcI PP 33 cm33 16 84 [some (.ref 0), some (.int x1), none, none] [] (sI s369 7 (ix v345) (1 : Int32)) Q)))))))) ∧ (¬ (x1 < (64 : Int32)) → Q (-1 : Int32) s)) : wpcI PP 33 cm33 16 2 [some (.ref 0), some (.int x1), none, none] [] s Q := by
  refine wpc_sl (n := 2) (c' := 16) (pc' := 5) (ls' := [some (.ref 0), some (.int x1), none, none]) (st' := [.int (64 : Int32), .int x1]) (s' := s) rfl ?_
  refine wpc_icmp (a := 90) (b := 8) rfl (by decide) rfl rfl (wpc_br (p := x1 < (64 : Int32)) ⟨fun hc341 => ?_, fun hc341 => ?_⟩)
  · have h342 := h.1 hc341
    refine wpc_sl (n := 1) (c' := 16) (pc' := 9) (ls' := [some (.ref 0), some (.int x1), none, none]) (st' := [.ref 0]) (s' := s) rfl ?_
    refine wpc_callI (m' := 34) (me' := cm34) (as := []) (r := []) rfl rfl rfl rfl rfl ⟨by decide, (by first | decide | exact Nat.le_of_ble_eq_true rfl), (by first | decide | exact Nat.le_of_ble_eq_true rfl), rfl⟩ (calI.mono h342 fun v345 s344 h346 => ?_)
    refine wpc_sl (n := 2) (c' := 16) (pc' := 14) (ls' := [some (.ref 0), some (.int x1), some (.int v345), none]) (st' := [.int v345]) (s' := s344) rfl ?_
    refine wpc_if (a := 26) (b := 17) rfl (by decide) rfl rfl (wpc_br (p := v345 < (0 : Int32)) ⟨fun hc347 => ?_, fun hc347 => ?_⟩)
    · have h348 := h346.1 hc347
      refine wpc_sl (n := 1) (c' := 16) (pc' := 18) (ls' := [some (.ref 0), some (.int x1), some (.int v345), none]) (st' := [.ref 0]) (s' := s344) rfl ?_
      refine wpc_callI (m' := 40) (me' := cm40) (as := []) (r := []) rfl rfl rfl rfl rfl ⟨by decide, (by first | decide | exact Nat.le_of_ble_eq_true rfl), (by first | decide | exact Nat.le_of_ble_eq_true rfl), rfl⟩ (calI.mono h348 fun v351 s350 h352 => ?_)
      refine wpc_if (a := 84) (b := 24) rfl (by decide) rfl rfl (wpc_br (p := v351 = (0 : Int32)) ⟨fun hc353 => ?_, fun hc353 => ?_⟩)
      · have h354 := h352.1 hc353
        refine wpc_sl (n := 1) (c' := 16) (pc' := 25) (ls' := [some (.ref 0), some (.int x1), some (.int v345), none]) (st' := [.int (-1 : Int32)]) (s' := s350) rfl ?_
        exact wpc_ret rfl rfl (fun q => absurd q (by decide)) rfl ⟨(-1 : Int32), rfl, h354⟩
      · have h355 := h352.2 hc353
        exact wpc_lle (ls := [some (.ref 0), some (.int x1), none, none]) ⟨rfl, rfl, trivial⟩ h355
    · have h349 := h346.2 hc347
      refine wpc_sl (n := 3) (c' := 16) (pc' := 31) (ls' := [some (.ref 0), some (.int x1), some (.int v345), none]) (st' := [.int v345, .ref 6]) (s' := s344) rfl ?_
      refine wpc_ldaZ (a := 5) (N := 8) (v := (gI s344 6 (ix v345))) rfl rfl (by decide) h349.1 rfl ?_
      have h356 := h349.2
      refine wpc_if (a := 82) (b := 35) rfl (by decide) rfl rfl (wpc_br (p := (gI s344 6 (ix v345)) = (0 : Int32)) ⟨fun hc357 => ?_, fun hc357 => ?_⟩)
      · have h358 := h356.1 hc357
        refine wpc_sl (n := 1) (c' := 16) (pc' := 83) (ls' := [some (.ref 0), some (.int x1), some (.int v345), none]) (st' := [.int v345]) (s' := s344) rfl ?_
        exact wpc_ret rfl rfl (fun q => absurd q (by decide)) rfl ⟨v345, rfl, h358⟩
      · have h359 := h356.2 hc357
        refine wpc_sl (n := 3) (c' := 16) (pc' := 40) (ls' := [some (.ref 0), some (.int x1), some (.int v345), none]) (st' := [.int v345, .ref 5]) (s' := s344) rfl ?_
        refine wpc_ldaZ (a := 4) (N := 8) (v := (gI s344 5 (ix v345))) rfl rfl (by decide) h359.1 rfl ?_
        have h360 := h359.2
        refine wpc_if (a := 82) (b := 44) rfl (by decide) rfl rfl (wpc_br (p := (gI s344 5 (ix v345)) = (0 : Int32)) ⟨fun hc361 => ?_, fun hc361 => ?_⟩)
        · have h362 := h360.1 hc361
          refine wpc_sl (n := 1) (c' := 16) (pc' := 83) (ls' := [some (.ref 0), some (.int x1), some (.int v345), none]) (st' := [.int v345]) (s' := s344) rfl ?_
          exact wpc_ret rfl rfl (fun q => absurd q (by decide)) rfl ⟨v345, rfl, h362⟩
        · have h363 := h360.2 hc361
          refine wpc_sl (n := 3) (c' := 16) (pc' := 49) (ls' := [some (.ref 0), some (.int x1), some (.int v345), none]) (st' := [.int v345, .ref 4]) (s' := s344) rfl ?_
          refine wpc_ldaI (a := 3) (N := 8) (v := (gI s344 4 (ix v345))) rfl rfl (by decide) h363.1 rfl ?_
          have h364 := h363.2
          refine wpc_if (a := 82) (b := 53) rfl (by decide) rfl rfl (wpc_br (p := (gI s344 4 (ix v345)) < (0 : Int32)) ⟨fun hc365 => ?_, fun hc365 => ?_⟩)
          · have h366 := h364.1 hc365
            refine wpc_sl (n := 1) (c' := 16) (pc' := 83) (ls' := [some (.ref 0), some (.int x1), some (.int v345), none]) (st' := [.int v345]) (s' := s344) rfl ?_
            exact wpc_ret rfl rfl (fun q => absurd q (by decide)) rfl ⟨v345, rfl, h366⟩
          · have h367 := h364.2 hc365
            refine wpc_sl (n := 3) (c' := 16) (pc' := 58) (ls' := [some (.ref 0), some (.int x1), some (.int v345), none]) (st' := [.int v345, .ref 4]) (s' := s344) rfl ?_
            refine wpc_ldaI (a := 3) (N := 8) (v := (gI s344 4 (ix v345))) rfl rfl (by decide) h367.1 rfl ?_
            have h368 := h367.2
            refine wpc_sl (n := 5) (c' := 16) (pc' := 64) (ls' := [some (.ref 0), some (.int x1), some (.int v345), some (.int (gI s344 4 (ix v345)))]) (st' := [.int (1 : Int32), .int (gI s344 4 (ix v345)), .int v345, .ref 0]) (s' := s344) rfl ?_
            refine wpc_callI (m' := 36) (me' := cm36) (as := [.int v345, .int (gI s344 4 (ix v345)), .int (1 : Int32)]) (r := []) rfl rfl rfl rfl rfl ⟨by decide, (by first | decide | exact Nat.le_of_ble_eq_true rfl), (by first | decide | exact Nat.le_of_ble_eq_true rfl), rfl⟩ (calI.mono h368 fun v370 s369 h371 => ?_)
            refine wpc_if (a := 72) (b := 70) rfl (by decide) rfl rfl (wpc_br (p := v370 = (0 : Int32)) ⟨fun hc372 => ?_, fun hc372 => ?_⟩)
            · have h373 := h371.1 hc372
              refine wpc_sl (n := 1) (c' := 16) (pc' := 71) (ls' := [some (.ref 0), some (.int x1), some (.int v345), some (.int (gI s344 4 (ix v345)))]) (st' := [.int (-1 : Int32)]) (s' := s369) rfl ?_
              exact wpc_ret rfl rfl (fun q => absurd q (by decide)) rfl ⟨(-1 : Int32), rfl, h373⟩
            · have h374 := h371.2 hc372
              refine wpc_sl (n := 4) (c' := 16) (pc' := 78) (ls' := [some (.ref 0), some (.int x1), some (.int v345), some (.int (gI s344 4 (ix v345)))]) (st' := [.int (1 : Int32), .int v345, .ref 7]) (s' := s369) rfl ?_
              refine wpc_staZ (a := 6) (N := 8) (s' := (sI s369 7 (ix v345) (1 : Int32))) rfl rfl (by decide) h374.1 rfl ?_
              have h375 := h374.2
              refine wpc_sl (n := 1) (c' := 16) (pc' := 84) (ls' := [some (.ref 0), some (.int x1), some (.int v345), some (.int (gI s344 4 (ix v345)))]) (st' := []) (s' := (sI s369 7 (ix v345) (1 : Int32))) rfl ?_
              exact wpc_lle (ls := [some (.ref 0), some (.int x1), none, none]) ⟨rfl, rfl, trivial⟩ h375
  · have h343 := h.2 hc341
    refine wpc_sl (n := 1) (c' := 16) (pc' := 91) (ls' := [some (.ref 0), some (.int x1), none, none]) (st' := [.int (-1 : Int32)]) (s' := s) rfl ?_
    exact wpc_ret rfl rfl (fun q => absurd q (by decide)) rfl ⟨(-1 : Int32), rfl, h343⟩
theorem c33_84 (x1 : Int32) (s : St) (Q : Int32 → St → Prop) (h : wpcI PP 33 cm33 16 2 [some (.ref 0), some (.int (x1 + (1 : Int32))), none, none] [] s Q) : wpcI PP 33 cm33 16 84 [some (.ref 0), some (.int x1), none, none] [] s Q := by
  refine wpc_sl (n := 2) (c' := 16) (pc' := 2) (ls' := [some (.ref 0), some (.int (x1 + (1 : Int32))), none, none]) (st' := []) (s' := s) rfl ?_
  exact h
theorem c35_in (a1 : Int32) (a2 : Int32) (s : St) (Q : St → Prop) (h : calI PP 22 16 [.ref 0, .int a2] s (fun v499 s498 => ((v499 = (0 : Int32)) → Q s498) ∧ (¬ (v499 = (0 : Int32)) → ∀ m504, m504 = (if a1 < (0 : Int32) then (0 : Int32) else (if a1 < (gI s498 0 16) then (1 : Int32) else (0 : Int32))) → (((m504 = (0 : Int32)) → wpcV PP 35 cm35 16 47 [some (.ref 0), some (.int a1), some (.int a2), some (.int m504), none] [] s498 Q) ∧ (¬ (m504 = (0 : Int32)) → inb 8 a2 ∧ (((gI s498 7 (ix a2)) = (0 : Int32)) → wpcV PP 35 cm35 16 47 [some (.ref 0), some (.int a1), some (.int a2), some (.int m504), none] [] s498 Q) ∧ (¬ ((gI s498 7 (ix a2)) = (0 : Int32)) → inb 4 a1 ∧ wpcV PP 35 cm35 16 47 [some (.ref 0), some (.int a1), some (.int a2), some (.int m504), none] [] (sI s498 16 (ix a1) a2) Q)))))) : calV PP 35 16 [.ref 0, .int a1, .int a2] s Q := by
  refine cal_of (me := cm35) (ls := [some (.ref 0), some (.int a1), some (.int a2), none, none]) rfl (Nat.le_of_ble_eq_true rfl) rfl ?_
  refine wpc_sl (n := 2) (c' := 16) (pc' := 2) (ls' := [some (.ref 0), some (.int a1), some (.int a2), none, none]) (st' := [.int a2, .ref 0]) (s' := s) rfl ?_
  refine wpc_callI (m' := 22) (me' := cm22) (as := [.int a2]) (r := []) rfl rfl rfl rfl rfl ⟨by decide, (by first | decide | exact Nat.le_of_ble_eq_true rfl), (by first | decide | exact Nat.le_of_ble_eq_true rfl), rfl⟩ (calI.mono h fun v499 s498 h500 => ?_)
  refine wpc_if (a := 9) (b := 8) rfl (by decide) rfl rfl (wpc_br (p := v499 = (0 : Int32)) ⟨fun hc501 => ?_, fun hc501 => ?_⟩)
  · have h502 := h500.1 hc501
    exact wpc_ret rfl rfl (fun q => absurd q (by decide)) rfl ⟨rfl, h502⟩
  · have h503 := h500.2 hc501
    refine wpc_sl (n := 1) (c' := 16) (pc' := 10) (ls' := [some (.ref 0), some (.int a1), some (.int a2), none, none]) (st' := [.int a1]) (s' := s498) rfl ?_
    have hm505 : ∀ m504, m504 = (if a1 < (0 : Int32) then (0 : Int32) else (if a1 < (gI s498 0 16) then (1 : Int32) else (0 : Int32))) → wpcV PP 35 cm35 16 26 [some (.ref 0), some (.int a1), some (.int a2), none, none] [.int m504] s498 Q := by
      intro m504 em504
      have h506 := h503 m504 em504
      refine wpc_sl (n := 2) (c' := 16) (pc' := 28) (ls' := [some (.ref 0), some (.int a1), some (.int a2), some (.int m504), none]) (st' := [.int m504]) (s' := s498) rfl ?_
      refine wpc_if (a := 47) (b := 31) rfl (by decide) rfl rfl (wpc_br (p := m504 = (0 : Int32)) ⟨fun hc507 => ?_, fun hc507 => ?_⟩)
      · have h508 := h506.1 hc507
        exact h508
      · have h509 := h506.2 hc507
        refine wpc_sl (n := 3) (c' := 16) (pc' := 36) (ls' := [some (.ref 0), some (.int a1), some (.int a2), some (.int m504), none]) (st' := [.int a2, .ref 7]) (s' := s498) rfl ?_
        refine wpc_ldaZ (a := 6) (N := 8) (v := (gI s498 7 (ix a2))) rfl rfl (by decide) h509.1 rfl ?_
        have h510 := h509.2
        refine wpc_if (a := 47) (b := 40) rfl (by decide) rfl rfl (wpc_br (p := (gI s498 7 (ix a2)) = (0 : Int32)) ⟨fun hc511 => ?_, fun hc511 => ?_⟩)
        · have h512 := h510.1 hc511
          exact h512
        · have h513 := h510.2 hc511
          refine wpc_sl (n := 4) (c' := 16) (pc' := 46) (ls' := [some (.ref 0), some (.int a1), some (.int a2), some (.int m504), none]) (st' := [.int a2, .int a1, .ref 16]) (s' := s498) rfl ?_
          refine wpc_staI (a := 15) (N := 4) (s' := (sI s498 16 (ix a1) a2)) rfl rfl (by decide) h513.1 rfl ?_
          have h514 := h513.2
          exact h514
    refine wpc_if (a := 25) (b := 13) rfl (by decide) rfl rfl (wpc_br (p := a1 < (0 : Int32)) ⟨fun hc515 => ?_, fun hc515 => ?_⟩)
    · refine wpc_sl (n := 1) (c' := 16) (pc' := 26) (ls' := [some (.ref 0), some (.int a1), some (.int a2), none, none]) (st' := [.int (0 : Int32)]) (s' := s498) rfl ?_
      first | exact hm505 _ (by simp only [if_pos hc515]) | exact wpc_lle (by repeat (first | exact trivial | refine ⟨rfl, ?_⟩)) (hm505 _ (by simp only [if_pos hc515]))
    · refine wpc_sl (n := 3) (c' := 16) (pc' := 18) (ls' := [some (.ref 0), some (.int a1), some (.int a2), none, none]) (st' := [.int (gI s498 0 16), .int a1]) (s' := s498) rfl ?_
      refine wpc_icmp (a := 25) (b := 21) rfl (by decide) rfl rfl (wpc_br (p := a1 < (gI s498 0 16)) ⟨fun hc516 => ?_, fun hc516 => ?_⟩)
      · refine wpc_sl (n := 2) (c' := 16) (pc' := 26) (ls' := [some (.ref 0), some (.int a1), some (.int a2), none, none]) (st' := [.int (1 : Int32)]) (s' := s498) rfl ?_
        first | exact hm505 _ (by simp only [if_neg hc515, if_pos hc516]) | exact wpc_lle (by repeat (first | exact trivial | refine ⟨rfl, ?_⟩)) (hm505 _ (by simp only [if_neg hc515, if_pos hc516]))
      · refine wpc_sl (n := 1) (c' := 16) (pc' := 26) (ls' := [some (.ref 0), some (.int a1), some (.int a2), none, none]) (st' := [.int (0 : Int32)]) (s' := s498) rfl ?_
        first | exact hm505 _ (by simp only [if_neg hc515, if_neg hc516]) | exact wpc_lle (by repeat (first | exact trivial | refine ⟨rfl, ?_⟩)) (hm505 _ (by simp only [if_neg hc515, if_neg hc516]))
theorem c35_47 (x1 : Int32) (x2 : Int32) (x3 : Int32) (s : St) (Q : St → Prop) (h : wpcV PP 35 cm35 16 50 [some (.ref 0), some (.int x1), some (.int x2), some (.int x3), some (.int (0 : Int32))] [] s Q) : wpcV PP 35 cm35 16 47 [some (.ref 0), some (.int x1), some (.int x2), some (.int x3), none] [] s Q := by
  refine wpc_sl (n := 2) (c' := 16) (pc' := 50) (ls' := [some (.ref 0), some (.int x1), some (.int x2), some (.int x3), some (.int (0 : Int32))]) (st' := []) (s' := s) rfl ?_
  exact h
theorem c35_50 (x1 : Int32) (x2 : Int32) (x3 : Int32) (x4 : Int32) (s : St) (Q : St → Prop) (h : ((x4 < (64 : Int32)) → inb 8 x2 ∧ (((gI s 7 (ix x2)) = (0 : Int32)) → wpcV PP 35 cm35 16 85 [some (.ref 0), some (.int x1), none, some (.int x3), none] [] s Q) ∧ (¬ ((gI s 7 (ix x2)) = (0 : Int32)) → calI PP 40 16 [.ref 0] s (fun v525 s524 => ((v525 = (0 : Int32)) → wpcV PP 35 cm35 16 85 [some (.ref 0), some (.int x1), none, some (.int x3), none] [] s524 Q) ∧ (¬ (v525 = (0 : Int32)) → wpcV PP 35 cm35 16 50 [some (.ref 0), some (.int x1), some (.int x2), some (.int x3), some (.int (x4 + (1 : Int32)))] [] s524 Q)))) ∧ (¬ (x4 < (64 : Int32)) → wpcV PP 35 cm35 16 85 [some (.ref 0), some (.int x1), none, some (.int x3), none] [] s Q)) : wpcV PP 35 cm35 16 50 [some (.ref 0), some (.int x1), some (.int x2), some (.int x3), some (.int x4)] [] s Q := by
  refine wpc_sl (n := 2) (c' := 16) (pc' := 54) (ls' := [some (.ref 0), some (.int x1), some (.int x2), some (.int x3), some (.int x4)]) (st' := [.int (64 : Int32), .int x4]) (s' := s) rfl ?_
  refine wpc_icmp (a := 85) (b := 57) rfl (by decide) rfl rfl (wpc_br (p := x4 < (64 : Int32)) ⟨fun hc517 => ?_, fun hc517 => ?_⟩)
  · have h518 := h.1 hc517
    refine wpc_sl (n := 3) (c' := 16) (pc' := 62) (ls' := [some (.ref 0), some (.int x1), some (.int x2), some (.int x3), some (.int x4)]) (st' := [.int x2, .ref 7]) (s' := s) rfl ?_
    refine wpc_ldaZ (a := 6) (N := 8) (v := (gI s 7 (ix x2))) rfl rfl (by decide) h518.1 rfl ?_
    have h520 := h518.2
    refine wpc_if (a := 69) (b := 66) rfl (by decide) rfl rfl (wpc_br (p := (gI s 7 (ix x2)) = (0 : Int32)) ⟨fun hc521 => ?_, fun hc521 => ?_⟩)
    · have h522 := h520.1 hc521
      refine wpc_sl (n := 1) (c' := 16) (pc' := 85) (ls' := [some (.ref 0), some (.int x1), some (.int x2), some (.int x3), some (.int x4)]) (st' := []) (s' := s) rfl ?_
      exact wpc_lle (ls := [some (.ref 0), some (.int x1), none, some (.int x3), none]) ⟨rfl, rfl, rfl, trivial⟩ h522
    · have h523 := h520.2 hc521
      refine wpc_sl (n := 1) (c' := 16) (pc' := 70) (ls' := [some (.ref 0), some (.int x1), some (.int x2), some (.int x3), some (.int x4)]) (st' := [.ref 0]) (s' := s) rfl ?_
      refine wpc_callI (m' := 40) (me' := cm40) (as := []) (r := []) rfl rfl rfl rfl rfl ⟨by decide, (by first | decide | exact Nat.le_of_ble_eq_true rfl), (by first | decide | exact Nat.le_of_ble_eq_true rfl), rfl⟩ (calI.mono h523 fun v525 s524 h526 => ?_)
      refine wpc_if (a := 79) (b := 76) rfl (by decide) rfl rfl (wpc_br (p := v525 = (0 : Int32)) ⟨fun hc527 => ?_, fun hc527 => ?_⟩)
      · have h528 := h526.1 hc527
        refine wpc_sl (n := 1) (c' := 16) (pc' := 85) (ls' := [some (.ref 0), some (.int x1), some (.int x2), some (.int x3), some (.int x4)]) (st' := []) (s' := s524) rfl ?_
        exact wpc_lle (ls := [some (.ref 0), some (.int x1), none, some (.int x3), none]) ⟨rfl, rfl, rfl, trivial⟩ h528
      · have h529 := h526.2 hc527
        refine wpc_sl (n := 2) (c' := 16) (pc' := 50) (ls' := [some (.ref 0), some (.int x1), some (.int x2), some (.int x3), some (.int (x4 + (1 : Int32)))]) (st' := []) (s' := s524) rfl ?_
        exact h529
  · have h519 := h.2 hc517
    exact wpc_lle (ls := [some (.ref 0), some (.int x1), none, some (.int x3), none]) ⟨rfl, rfl, rfl, trivial⟩ h519
theorem c35_85 (x1 : Int32) (x3 : Int32) (s : St) (Q : St → Prop) (h : ((x3 = (0 : Int32)) → Q s) ∧ (¬ (x3 = (0 : Int32)) → inb 4 x1 ∧ Q (sI s 16 (ix x1) (-1 : Int32)))) : wpcV PP 35 cm35 16 85 [some (.ref 0), some (.int x1), none, some (.int x3), none] [] s Q := by
  refine wpc_sl (n := 1) (c' := 16) (pc' := 86) (ls' := [some (.ref 0), some (.int x1), none, some (.int x3), none]) (st' := [.int x3]) (s' := s) rfl ?_
  refine wpc_if (a := 96) (b := 89) rfl (by decide) rfl rfl (wpc_br (p := x3 = (0 : Int32)) ⟨fun hc530 => ?_, fun hc530 => ?_⟩)
  · have h531 := h.1 hc530
    exact wpc_ret rfl rfl (fun q => absurd q (by decide)) rfl ⟨rfl, h531⟩
  · have h532 := h.2 hc530
    refine wpc_sl (n := 4) (c' := 16) (pc' := 95) (ls' := [some (.ref 0), some (.int x1), none, some (.int x3), none]) (st' := [.int (-1 : Int32), .int x1, .ref 16]) (s' := s) rfl ?_
    refine wpc_staI (a := 15) (N := 4) (s' := (sI s 16 (ix x1) (-1 : Int32))) rfl rfl (by decide) h532.1 rfl ?_
    have h533 := h532.2
    exact wpc_ret rfl rfl (fun q => absurd q (by decide)) rfl ⟨rfl, h533⟩
theorem c30_in (a1 : Int32) (s : St) (Q : St → Prop) (h : inb 8 a1 ∧ Q (sI (sI s 0 26 ((gI s 0 26) + (1 : Int32))) 9 (ix a1) ((gI s 0 26) + (1 : Int32)))) : calV PP 30 16 [.ref 0, .int a1] s Q := by
  refine cal_of (me := cm30) (ls := [some (.ref 0), some (.int a1)]) rfl (Nat.le_of_ble_eq_true rfl) rfl ?_
  refine wpc_sl (n := 11) (c' := 16) (pc' := 19) (ls' := [some (.ref 0), some (.int a1)]) (st' := [.int ((gI s 0 26) + (1 : Int32)), .int a1, .ref 9]) (s' := (sI s 0 26 ((gI s 0 26) + (1 : Int32)))) rfl ?_
  refine wpc_staI (a := 8) (N := 8) (s' := (sI (sI s 0 26 ((gI s 0 26) + (1 : Int32))) 9 (ix a1) ((gI s 0 26) + (1 : Int32)))) rfl rfl (by decide) h.1 rfl ?_
  have h534 := h.2
  exact wpc_ret rfl rfl (fun q => absurd q (by decide)) rfl ⟨rfl, h534⟩
theorem c32_in (a1 : Int32) (a2 : Int32) (a3 : Int32) (s : St) (Q : Int32 → St → Prop) (h : calI PP 31 16 [.ref 0, .int a2] s (fun v296 s295 => ((v296 < (0 : Int32)) → calI PP 33 16 [.ref 0] s295 (fun v302 s301 => ((v302 < (0 : Int32)) → Q (-1 : Int32) s301) ∧ (¬ (v302 < (0 : Int32)) → inb 8 v302 ∧ inb 8 v302 ∧ inb 8 v302 ∧ wpcI PP 32 cm32 16 59 [some (.ref 0), some (.int a1), some (.int a2), some (.int a3), some (.int v302)] [] (sI (sI (sI s301 4 (ix v302) a2) 5 (ix v302) (0 : Int32)) 6 (ix v302) (0 : Int32)) Q))) ∧ (¬ (v296 < (0 : Int32)) → calV PP 35 16 [.ref 0, .int a1, .int v296] s295 (fun s310 => wpcI PP 32 cm32 16 59 [some (.ref 0), some (.int a1), some (.int a2), some (.int a3), some (.int v296)] [] s310 Q)))) : calI PP 32 16 [.ref 0, .int a1, .int a2, .int a3] s Q := by
  refine cal_of (me := cm32) (ls := [some (.ref 0), some (.int a1), some (.int a2), some (.int a3), none]) rfl (Nat.le_of_ble_eq_true rfl) rfl ?_
  refine wpc_sl (n := 2) (c' := 16) (pc' := 2) (ls' := [some (.ref 0), some (.int a1), some (.int a2), some (.int a3), none]) (st' := [.int a2, .ref 0]) (s' := s) rfl ?_
  refine wpc_callI (m' := 31) (me' := cm31) (as := [.int a2]) (r := []) rfl rfl rfl rfl rfl ⟨by decide, (by first | decide | exact Nat.le_of_ble_eq_true rfl), (by first | decide | exact Nat.le_of_ble_eq_true rfl), rfl⟩ (calI.mono h fun v296 s295 h297 => ?_)
  refine wpc_sl (n := 2) (c' := 16) (pc' := 9) (ls' := [some (.ref 0), some (.int a1), some (.int a2), some (.int a3), some (.int v296)]) (st' := [.int v296]) (s' := s295) rfl ?_
  refine wpc_if (a := 22) (b := 12) rfl (by decide) rfl rfl (wpc_br (p := v296 < (0 : Int32)) ⟨fun hc298 => ?_, fun hc298 => ?_⟩)
  · have h299 := h297.1 hc298
    refine wpc_sl (n := 1) (c' := 16) (pc' := 23) (ls' := [some (.ref 0), some (.int a1), some (.int a2), some (.int a3), some (.int v296)]) (st' := [.ref 0]) (s' := s295) rfl ?_
    refine wpc_callI (m' := 33) (me' := cm33) (as := []) (r := []) rfl rfl rfl rfl rfl ⟨by decide, (by first | decide | exact Nat.le_of_ble_eq_true rfl), (by first | decide | exact Nat.le_of_ble_eq_true rfl), rfl⟩ (calI.mono h299 fun v302 s301 h303 => ?_)
    refine wpc_sl (n := 2) (c' := 16) (pc' := 30) (ls' := [some (.ref 0), some (.int a1), some (.int a2), some (.int a3), some (.int v302)]) (st' := [.int v302]) (s' := s301) rfl ?_
    refine wpc_if (a := 35) (b := 33) rfl (by decide) rfl rfl (wpc_br (p := v302 < (0 : Int32)) ⟨fun hc304 => ?_, fun hc304 => ?_⟩)
    · have h305 := h303.1 hc304
      refine wpc_sl (n := 1) (c' := 16) (pc' := 34) (ls' := [some (.ref 0), some (.int a1), some (.int a2), some (.int a3), some (.int v302)]) (st' := [.int (-1 : Int32)]) (s' := s301) rfl ?_
      exact wpc_ret rfl rfl (fun q => absurd q (by decide)) rfl ⟨(-1 : Int32), rfl, h305⟩
    · have h306 := h303.2 hc304
      refine wpc_sl (n := 4) (c' := 16) (pc' := 42) (ls' := [some (.ref 0), some (.int a1), some (.int a2), some (.int a3), some (.int v302)]) (st' := [.int a2, .int v302, .ref 4]) (s' := s301) rfl ?_
      refine wpc_staI (a := 3) (N := 8) (s' := (sI s301 4 (ix v302) a2)) rfl rfl (by decide) h306.1 rfl ?_
      have h307 := h306.2
      refine wpc_sl (n := 4) (c' := 16) (pc' := 50) (ls' := [some (.ref 0), some (.int a1), some (.int a2), some (.int a3), some (.int v302)]) (st' := [.int (0 : Int32), .int v302, .ref 5]) (s' := (sI s301 4 (ix v302) a2)) rfl ?_
      refine wpc_staZ (a := 4) (N := 8) (s' := (sI (sI s301 4 (ix v302) a2) 5 (ix v302) (0 : Int32))) rfl rfl (by decide) h307.1 rfl ?_
      have h308 := h307.2
      refine wpc_sl (n := 4) (c' := 16) (pc' := 58) (ls' := [some (.ref 0), some (.int a1), some (.int a2), some (.int a3), some (.int v302)]) (st' := [.int (0 : Int32), .int v302, .ref 6]) (s' := (sI (sI s301 4 (ix v302) a2) 5 (ix v302) (0 : Int32))) rfl ?_
      refine wpc_staZ (a := 5) (N := 8) (s' := (sI (sI (sI s301 4 (ix v302) a2) 5 (ix v302) (0 : Int32)) 6 (ix v302) (0 : Int32))) rfl rfl (by decide) h308.1 rfl ?_
      have h309 := h308.2
      exact h309
  · have h300 := h297.2 hc298
    refine wpc_sl (n := 3) (c' := 16) (pc' := 16) (ls' := [some (.ref 0), some (.int a1), some (.int a2), some (.int a3), some (.int v296)]) (st' := [.int v296, .int a1, .ref 0]) (s' := s295) rfl ?_
    refine wpc_callV (m' := 35) (me' := cm35) (as := [.int a1, .int v296]) (r := []) rfl rfl rfl rfl rfl ⟨by decide, (by first | decide | exact Nat.le_of_ble_eq_true rfl), (by first | decide | exact Nat.le_of_ble_eq_true rfl), rfl⟩ (calV.mono h300 fun s310 h312 => ?_)
    refine wpc_sl (n := 1) (c' := 16) (pc' := 59) (ls' := [some (.ref 0), some (.int a1), some (.int a2), some (.int a3), some (.int v296)]) (st' := []) (s' := s310) rfl ?_
    exact h312
theorem c32_59 (x1 : Int32) (x2 : Int32) (x3 : Int32) (x4 : Int32) (s : St) (Q : Int32 → St → Prop) (h : inb 8 x4 ∧ calV PP 30 16 [.ref 0, .int x4] (sI s 8 (ix x4) (1 : Int32)) (fun s314 => ((x3 = (0 : Int32)) → Q x4 s314) ∧ (¬ (x3 = (0 : Int32)) → inb 8 x4 ∧ (((gI s314 5 (ix x4)) = (0 : Int32)) → calI PP 36 16 [.ref 0, .int x4, .int x2, .int (0 : Int32)] s314 (fun v325 s324 => ((v325 = (0 : Int32)) → wpcI PP 32 cm32 16 106 [some (.ref 0), some (.int x1), none, none, some (.int x4)] [] s324 Q) ∧ (¬ (v325 = (0 : Int32)) → inb 8 x4 ∧ wpcI PP 32 cm32 16 106 [some (.ref 0), some (.int x1), none, none, some (.int x4)] [] (sI s324 7 (ix x4) (1 : Int32)) Q))) ∧ (¬ ((gI s314 5 (ix x4)) = (0 : Int32)) → Q x4 s314)))) : wpcI PP 32 cm32 16 59 [some (.ref 0), some (.int x1), some (.int x2), some (.int x3), some (.int x4)] [] s Q := by
  refine wpc_sl (n := 4) (c' := 16) (pc' := 66) (ls' := [some (.ref 0), some (.int x1), some (.int x2), some (.int x3), some (.int x4)]) (st' := [.int (1 : Int32), .int x4, .ref 8]) (s' := s) rfl ?_
  refine wpc_staZ (a := 7) (N := 8) (s' := (sI s 8 (ix x4) (1 : Int32))) rfl rfl (by decide) h.1 rfl ?_
  have h313 := h.2
  refine wpc_sl (n := 2) (c' := 16) (pc' := 70) (ls' := [some (.ref 0), some (.int x1), some (.int x2), some (.int x3), some (.int x4)]) (st' := [.int x4, .ref 0]) (s' := (sI s 8 (ix x4) (1 : Int32))) rfl ?_
  refine wpc_callV (m' := 30) (me' := cm30) (as := [.int x4]) (r := []) rfl rfl rfl rfl rfl ⟨by decide, (by first | decide | exact Nat.le_of_ble_eq_true rfl), (by first | decide | exact Nat.le_of_ble_eq_true rfl), rfl⟩ (calV.mono h313 fun s314 h316 => ?_)
  refine wpc_sl (n := 1) (c' := 16) (pc' := 74) (ls' := [some (.ref 0), some (.int x1), some (.int x2), some (.int x3), some (.int x4)]) (st' := [.int x3]) (s' := s314) rfl ?_
  refine wpc_if (a := 113) (b := 77) rfl (by decide) rfl rfl (wpc_br (p := x3 = (0 : Int32)) ⟨fun hc317 => ?_, fun hc317 => ?_⟩)
  · have h318 := h316.1 hc317
    refine wpc_sl (n := 1) (c' := 16) (pc' := 115) (ls' := [some (.ref 0), some (.int x1), some (.int x2), some (.int x3), some (.int x4)]) (st' := [.int x4]) (s' := s314) rfl ?_
    exact wpc_ret rfl rfl (fun q => absurd q (by decide)) rfl ⟨x4, rfl, h318⟩
  · have h319 := h316.2 hc317
    refine wpc_sl (n := 3) (c' := 16) (pc' := 83) (ls' := [some (.ref 0), some (.int x1), some (.int x2), some (.int x3), some (.int x4)]) (st' := [.int x4, .ref 5]) (s' := s314) rfl ?_
    refine wpc_ldaZ (a := 4) (N := 8) (v := (gI s314 5 (ix x4))) rfl rfl (by decide) h319.1 rfl ?_
    have h320 := h319.2
    refine wpc_if (a := 113) (b := 87) rfl (by decide) rfl rfl (wpc_br (p := (gI s314 5 (ix x4)) = (0 : Int32)) ⟨fun hc321 => ?_, fun hc321 => ?_⟩)
    · have h322 := h320.1 hc321
      refine wpc_sl (n := 4) (c' := 16) (pc' := 92) (ls' := [some (.ref 0), some (.int x1), some (.int x2), some (.int x3), some (.int x4)]) (st' := [.int (0 : Int32), .int x2, .int x4, .ref 0]) (s' := s314) rfl ?_
      refine wpc_callI (m' := 36) (me' := cm36) (as := [.int x4, .int x2, .int (0 : Int32)]) (r := []) rfl rfl rfl rfl rfl ⟨by decide, (by first | decide | exact Nat.le_of_ble_eq_true rfl), (by first | decide | exact Nat.le_of_ble_eq_true rfl), rfl⟩ (calI.mono h322 fun v325 s324 h326 => ?_)
      refine wpc_if (a := 106) (b := 98) rfl (by decide) rfl rfl (wpc_br (p := v325 = (0 : Int32)) ⟨fun hc327 => ?_, fun hc327 => ?_⟩)
      · have h328 := h326.1 hc327
        exact wpc_lle (ls := [some (.ref 0), some (.int x1), none, none, some (.int x4)]) ⟨rfl, rfl, rfl, trivial⟩ h328
      · have h329 := h326.2 hc327
        refine wpc_sl (n := 4) (c' := 16) (pc' := 105) (ls' := [some (.ref 0), some (.int x1), some (.int x2), some (.int x3), some (.int x4)]) (st' := [.int (1 : Int32), .int x4, .ref 7]) (s' := s324) rfl ?_
        refine wpc_staZ (a := 6) (N := 8) (s' := (sI s324 7 (ix x4) (1 : Int32))) rfl rfl (by decide) h329.1 rfl ?_
        have h330 := h329.2
        exact wpc_lle (ls := [some (.ref 0), some (.int x1), none, none, some (.int x4)]) ⟨rfl, rfl, rfl, trivial⟩ h330
    · have h323 := h320.2 hc321
      refine wpc_sl (n := 1) (c' := 16) (pc' := 115) (ls' := [some (.ref 0), some (.int x1), some (.int x2), some (.int x3), some (.int x4)]) (st' := [.int x4]) (s' := s314) rfl ?_
      exact wpc_ret rfl rfl (fun q => absurd q (by decide)) rfl ⟨x4, rfl, h323⟩
theorem c32_106 (x1 : Int32) (x4 : Int32) (s : St) (Q : Int32 → St → Prop) (h : calV PP 35 16 [.ref 0, .int x1, .int x4] s (fun s331 => Q x4 s331)) : wpcI PP 32 cm32 16 106 [some (.ref 0), some (.int x1), none, none, some (.int x4)] [] s Q := by
  refine wpc_sl (n := 3) (c' := 16) (pc' := 110) (ls' := [some (.ref 0), some (.int x1), none, none, some (.int x4)]) (st' := [.int x4, .int x1, .ref 0]) (s' := s) rfl ?_
  refine wpc_callV (m' := 35) (me' := cm35) (as := [.int x1, .int x4]) (r := []) rfl rfl rfl rfl rfl ⟨by decide, (by first | decide | exact Nat.le_of_ble_eq_true rfl), (by first | decide | exact Nat.le_of_ble_eq_true rfl), rfl⟩ (calV.mono h fun s331 h333 => ?_)
  refine wpc_sl (n := 1) (c' := 16) (pc' := 115) (ls' := [some (.ref 0), some (.int x1), none, none, some (.int x4)]) (st' := [.int x4]) (s' := s331) rfl ?_
  exact wpc_ret rfl rfl (fun q => absurd q (by decide)) rfl ⟨x4, rfl, h333⟩
theorem c24_in (a1 : Int32) (a2 : Int32) (a3 : Int32) (s : St) (Q : Int32 → St → Prop) (h : calI PP 22 16 [.ref 0, .int a1] s (fun v536 s535 => ((v536 = (0 : Int32)) → wpcI PP 24 cm24 16 28 [some (.ref 0), none, some (.int a2), some (.int a3)] [] s535 Q) ∧ (¬ (v536 = (0 : Int32)) → inb 8 a1 ∧ (((gI s535 5 (ix a1)) = (0 : Int32)) → wpcI PP 24 cm24 16 28 [some (.ref 0), none, some (.int a2), some (.int a3)] [] s535 Q) ∧ (¬ ((gI s535 5 (ix a1)) = (0 : Int32)) → inb 32 ((a1 * (4 : Int32)) + a3) ∧ Q (gI s535 3 (ix ((a1 * (4 : Int32)) + a3))) s535)))) : calI PP 24 16 [.ref 0, .int a1, .int a2, .int a3] s Q := by
  refine cal_of (me := cm24) (ls := [some (.ref 0), some (.int a1), some (.int a2), some (.int a3)]) rfl (Nat.le_of_ble_eq_true rfl) rfl ?_
  refine wpc_sl (n := 2) (c' := 16) (pc' := 2) (ls' := [some (.ref 0), some (.int a1), some (.int a2), some (.int a3)]) (st' := [.int a1, .ref 0]) (s' := s) rfl ?_
  refine wpc_callI (m' := 22) (me' := cm22) (as := [.int a1]) (r := []) rfl rfl rfl rfl rfl ⟨by decide, (by first | decide | exact Nat.le_of_ble_eq_true rfl), (by first | decide | exact Nat.le_of_ble_eq_true rfl), rfl⟩ (calI.mono h fun v536 s535 h537 => ?_)
  refine wpc_if (a := 28) (b := 8) rfl (by decide) rfl rfl (wpc_br (p := v536 = (0 : Int32)) ⟨fun hc538 => ?_, fun hc538 => ?_⟩)
  · have h539 := h537.1 hc538
    exact wpc_lle (ls := [some (.ref 0), none, some (.int a2), some (.int a3)]) ⟨rfl, rfl, rfl, trivial⟩ h539
  · have h540 := h537.2 hc538
    refine wpc_sl (n := 3) (c' := 16) (pc' := 13) (ls' := [some (.ref 0), some (.int a1), some (.int a2), some (.int a3)]) (st' := [.int a1, .ref 5]) (s' := s535) rfl ?_
    refine wpc_ldaZ (a := 4) (N := 8) (v := (gI s535 5 (ix a1))) rfl rfl (by decide) h540.1 rfl ?_
    have h541 := h540.2
    refine wpc_if (a := 28) (b := 17) rfl (by decide) rfl rfl (wpc_br (p := (gI s535 5 (ix a1)) = (0 : Int32)) ⟨fun hc542 => ?_, fun hc542 => ?_⟩)
    · have h543 := h541.1 hc542
      exact wpc_lle (ls := [some (.ref 0), none, some (.int a2), some (.int a3)]) ⟨rfl, rfl, rfl, trivial⟩ h543
    · have h544 := h541.2 hc542
      refine wpc_sl (n := 7) (c' := 16) (pc' := 26) (ls' := [some (.ref 0), some (.int a1), some (.int a2), some (.int a3)]) (st' := [.int ((a1 * (4 : Int32)) + a3), .ref 3]) (s' := s535) rfl ?_
      refine wpc_ldaI (a := 2) (N := 32) (v := (gI s535 3 (ix ((a1 * (4 : Int32)) + a3)))) rfl rfl (by decide) h544.1 rfl ?_
      have h545 := h544.2
      exact wpc_ret rfl rfl (fun q => absurd q (by decide)) rfl ⟨(gI s535 3 (ix ((a1 * (4 : Int32)) + a3))), rfl, h545⟩
theorem c24_28 (x2 : Int32) (x3 : Int32) (s : St) (Q : Int32 → St → Prop) (h : inb 128 ((x2 * (4 : Int32)) + x3) ∧ Q (gI s 1 (ix ((x2 * (4 : Int32)) + x3))) s) : wpcI PP 24 cm24 16 28 [some (.ref 0), none, some (.int x2), some (.int x3)] [] s Q := by
  refine wpc_sl (n := 7) (c' := 16) (pc' := 37) (ls' := [some (.ref 0), none, some (.int x2), some (.int x3)]) (st' := [.int ((x2 * (4 : Int32)) + x3), .ref 1]) (s' := s) rfl ?_
  refine wpc_ldaI (a := 0) (N := 128) (v := (gI s 1 (ix ((x2 * (4 : Int32)) + x3)))) rfl rfl (by decide) h.1 rfl ?_
  have h546 := h.2
  exact wpc_ret rfl rfl (fun q => absurd q (by decide)) rfl ⟨(gI s 1 (ix ((x2 * (4 : Int32)) + x3))), rfl, h546⟩
theorem c29_in (a1 : Int32) (s : St) (Q : St → Prop) (h : calI PP 22 16 [.ref 0, .int a1] s (fun v548 s547 => ((v548 = (0 : Int32)) → Q s547) ∧ (¬ (v548 = (0 : Int32)) → inb 8 a1 ∧ Q (sI s547 8 (ix a1) (0 : Int32))))) : calV PP 29 16 [.ref 0, .int a1] s Q := by
  refine cal_of (me := cm29) (ls := [some (.ref 0), some (.int a1)]) rfl (Nat.le_of_ble_eq_true rfl) rfl ?_
  refine wpc_sl (n := 2) (c' := 16) (pc' := 2) (ls' := [some (.ref 0), some (.int a1)]) (st' := [.int a1, .ref 0]) (s' := s) rfl ?_
  refine wpc_callI (m' := 22) (me' := cm22) (as := [.int a1]) (r := []) rfl rfl rfl rfl rfl ⟨by decide, (by first | decide | exact Nat.le_of_ble_eq_true rfl), (by first | decide | exact Nat.le_of_ble_eq_true rfl), rfl⟩ (calI.mono h fun v548 s547 h549 => ?_)
  refine wpc_if (a := 15) (b := 8) rfl (by decide) rfl rfl (wpc_br (p := v548 = (0 : Int32)) ⟨fun hc550 => ?_, fun hc550 => ?_⟩)
  · have h551 := h549.1 hc550
    exact wpc_ret rfl rfl (fun q => absurd q (by decide)) rfl ⟨rfl, h551⟩
  · have h552 := h549.2 hc550
    refine wpc_sl (n := 4) (c' := 16) (pc' := 14) (ls' := [some (.ref 0), some (.int a1)]) (st' := [.int (0 : Int32), .int a1, .ref 8]) (s' := s547) rfl ?_
    refine wpc_staZ (a := 7) (N := 8) (s' := (sI s547 8 (ix a1) (0 : Int32))) rfl rfl (by decide) h552.1 rfl ?_
    have h553 := h552.2
    exact wpc_ret rfl rfl (fun q => absurd q (by decide)) rfl ⟨rfl, h553⟩
theorem c5_in (a1 : Int32) (a2 : Int32) (a3 : Int32) (s : St) (Q : Int32 → St → Prop) (h : calI PP 19 16 [.ref 0, .int a1] s (fun v248 s247 => ((v248 = (0 : Int32)) → calI PP 20 16 [.ref 0, .int a2] s247 (fun v254 s253 => ((v254 = (0 : Int32)) → calI PP 21 16 [.ref 0, .int a3] s253 (fun v260 s259 => ((v260 = (0 : Int32)) → calI PP 32 16 [.ref 0, .int a1, .int a2, .int (1 : Int32)] s259 (fun v266 s265 => calI PP 24 16 [.ref 0, .int v266, .int a2, .int a3] s265 (fun v269 s268 => calV PP 29 16 [.ref 0, .int v266] s268 (fun s271 => inb 4 a1 ∧ inb 4 a1 ∧ inb 4 a1 ∧ Q v269 (sI (sI s271 13 (ix a1) v269) 14 (ix a1) ((gI s271 14 (ix a1)) + (1 : Int32))))))) ∧ (¬ (v260 = (0 : Int32)) → Q (-4 : Int32) s259))) ∧ (¬ (v254 = (0 : Int32)) → Q (-3 : Int32) s253))) ∧ (¬ (v248 = (0 : Int32)) → Q (-2 : Int32) s247))) : calI PP 5 16 [.ref 0, .int a1, .int a2, .int a3] s Q := by
  refine cal_of (me := cm5) (ls := [some (.ref 0), some (.int a1), some (.int a2), some (.int a3), none, none]) rfl (Nat.le_of_ble_eq_true rfl) rfl ?_
  refine wpc_sl (n := 2) (c' := 16) (pc' := 2) (ls' := [some (.ref 0), some (.int a1), some (.int a2), some (.int a3), none, none]) (st' := [.int a1, .ref 0]) (s' := s) rfl ?_
  refine wpc_callI (m' := 19) (me' := cm19) (as := [.int a1]) (r := []) rfl rfl rfl rfl rfl ⟨by decide, (by first | decide | exact Nat.le_of_ble_eq_true rfl), (by first | decide | exact Nat.le_of_ble_eq_true rfl), rfl⟩ (calI.mono h fun v248 s247 h249 => ?_)
  refine wpc_if (a := 11) (b := 8) rfl (by decide) rfl rfl (wpc_br (p := v248 = (0 : Int32)) ⟨fun hc250 => ?_, fun hc250 => ?_⟩)
  · have h251 := h249.1 hc250
    refine wpc_sl (n := 2) (c' := 16) (pc' := 13) (ls' := [some (.ref 0), some (.int a1), some (.int a2), some (.int a3), none, none]) (st' := [.int a2, .ref 0]) (s' := s247) rfl ?_
    refine wpc_callI (m' := 20) (me' := cm20) (as := [.int a2]) (r := []) rfl rfl rfl rfl rfl ⟨by decide, (by first | decide | exact Nat.le_of_ble_eq_true rfl), (by first | decide | exact Nat.le_of_ble_eq_true rfl), rfl⟩ (calI.mono h251 fun v254 s253 h255 => ?_)
    refine wpc_if (a := 22) (b := 19) rfl (by decide) rfl rfl (wpc_br (p := v254 = (0 : Int32)) ⟨fun hc256 => ?_, fun hc256 => ?_⟩)
    · have h257 := h255.1 hc256
      refine wpc_sl (n := 2) (c' := 16) (pc' := 24) (ls' := [some (.ref 0), some (.int a1), some (.int a2), some (.int a3), none, none]) (st' := [.int a3, .ref 0]) (s' := s253) rfl ?_
      refine wpc_callI (m' := 21) (me' := cm21) (as := [.int a3]) (r := []) rfl rfl rfl rfl rfl ⟨by decide, (by first | decide | exact Nat.le_of_ble_eq_true rfl), (by first | decide | exact Nat.le_of_ble_eq_true rfl), rfl⟩ (calI.mono h257 fun v260 s259 h261 => ?_)
      refine wpc_if (a := 33) (b := 30) rfl (by decide) rfl rfl (wpc_br (p := v260 = (0 : Int32)) ⟨fun hc262 => ?_, fun hc262 => ?_⟩)
      · have h263 := h261.1 hc262
        refine wpc_sl (n := 4) (c' := 16) (pc' := 37) (ls' := [some (.ref 0), some (.int a1), some (.int a2), some (.int a3), none, none]) (st' := [.int (1 : Int32), .int a2, .int a1, .ref 0]) (s' := s259) rfl ?_
        refine wpc_callI (m' := 32) (me' := cm32) (as := [.int a1, .int a2, .int (1 : Int32)]) (r := []) rfl rfl rfl rfl rfl ⟨by decide, (by first | decide | exact Nat.le_of_ble_eq_true rfl), (by first | decide | exact Nat.le_of_ble_eq_true rfl), rfl⟩ (calI.mono h263 fun v266 s265 h267 => ?_)
        refine wpc_sl (n := 5) (c' := 16) (pc' := 47) (ls' := [some (.ref 0), some (.int a1), some (.int a2), some (.int a3), some (.int v266), none]) (st' := [.int a3, .int a2, .int v266, .ref 0]) (s' := s265) rfl ?_
        refine wpc_callI (m' := 24) (me' := cm24) (as := [.int v266, .int a2, .int a3]) (r := []) rfl rfl rfl rfl rfl ⟨by decide, (by first | decide | exact Nat.le_of_ble_eq_true rfl), (by first | decide | exact Nat.le_of_ble_eq_true rfl), rfl⟩ (calI.mono h267 fun v269 s268 h270 => ?_)
        refine wpc_sl (n := 3) (c' := 16) (pc' := 55) (ls' := [some (.ref 0), some (.int a1), some (.int a2), some (.int a3), some (.int v266), some (.int v269)]) (st' := [.int v266, .ref 0]) (s' := s268) rfl ?_
        refine wpc_callV (m' := 29) (me' := cm29) (as := [.int v266]) (r := []) rfl rfl rfl rfl rfl ⟨by decide, (by first | decide | exact Nat.le_of_ble_eq_true rfl), (by first | decide | exact Nat.le_of_ble_eq_true rfl), rfl⟩ (calV.mono h270 fun s271 h273 => ?_)
        refine wpc_sl (n := 4) (c' := 16) (pc' := 65) (ls' := [some (.ref 0), some (.int a1), some (.int a2), some (.int a3), some (.int v266), some (.int v269)]) (st' := [.int v269, .int a1, .ref 13]) (s' := s271) rfl ?_
        refine wpc_staI (a := 12) (N := 4) (s' := (sI s271 13 (ix a1) v269)) rfl rfl (by decide) h273.1 rfl ?_
        have h274 := h273.2
        refine wpc_sl (n := 6) (c' := 16) (pc' := 76) (ls' := [some (.ref 0), some (.int a1), some (.int a2), some (.int a3), some (.int v266), some (.int v269)]) (st' := [.int a1, .ref 14, .int a1, .ref 14]) (s' := (sI s271 13 (ix a1) v269)) rfl ?_
        refine wpc_ldaI (a := 13) (N := 4) (v := (gI s271 14 (ix a1))) rfl rfl (by decide) h274.1 rfl ?_
        have h275 := h274.2
        refine wpc_sl (n := 2) (c' := 16) (pc' := 79) (ls' := [some (.ref 0), some (.int a1), some (.int a2), some (.int a3), some (.int v266), some (.int v269)]) (st' := [.int ((gI s271 14 (ix a1)) + (1 : Int32)), .int a1, .ref 14]) (s' := (sI s271 13 (ix a1) v269)) rfl ?_
        refine wpc_staI (a := 13) (N := 4) (s' := (sI (sI s271 13 (ix a1) v269) 14 (ix a1) ((gI s271 14 (ix a1)) + (1 : Int32)))) rfl rfl (by decide) h275.1 rfl ?_
        have h276 := h275.2
        refine wpc_sl (n := 1) (c' := 16) (pc' := 82) (ls' := [some (.ref 0), some (.int a1), some (.int a2), some (.int a3), some (.int v266), some (.int v269)]) (st' := [.int v269]) (s' := (sI (sI s271 13 (ix a1) v269) 14 (ix a1) ((gI s271 14 (ix a1)) + (1 : Int32)))) rfl ?_
        exact wpc_ret rfl rfl (fun q => absurd q (by decide)) rfl ⟨v269, rfl, h276⟩
      · have h264 := h261.2 hc262
        refine wpc_sl (n := 1) (c' := 16) (pc' := 32) (ls' := [some (.ref 0), some (.int a1), some (.int a2), some (.int a3), none, none]) (st' := [.int (-4 : Int32)]) (s' := s259) rfl ?_
        exact wpc_ret rfl rfl (fun q => absurd q (by decide)) rfl ⟨(-4 : Int32), rfl, h264⟩
    · have h258 := h255.2 hc256
      refine wpc_sl (n := 1) (c' := 16) (pc' := 21) (ls' := [some (.ref 0), some (.int a1), some (.int a2), some (.int a3), none, none]) (st' := [.int (-3 : Int32)]) (s' := s253) rfl ?_
      exact wpc_ret rfl rfl (fun q => absurd q (by decide)) rfl ⟨(-3 : Int32), rfl, h258⟩
  · have h252 := h249.2 hc250
    refine wpc_sl (n := 1) (c' := 16) (pc' := 10) (ls' := [some (.ref 0), some (.int a1), some (.int a2), some (.int a3), none, none]) (st' := [.int (-2 : Int32)]) (s' := s247) rfl ?_
    exact wpc_ret rfl rfl (fun q => absurd q (by decide)) rfl ⟨(-2 : Int32), rfl, h252⟩
theorem l2W1_in (N : Nat) (sg : Nat → Int32) (a0 : Int64) (a1 : Int32) (s : St) (Q : Int32 → Wd → Prop) (h : Q (Int64.toInt32 ((XT.ushrL a0 ((16 : Int32) * a1)) &&& (65535 : Int64))) (W1 s)) : lalI PP QQ (some (N, sg)) 2 [.long a0, .int a1] (W1 s) Q := by
  refine lal_of (me := lm2) (ls := [some (.long a0), none, some (.int a1)]) rfl (Nat.le_of_ble_eq_true rfl) rfl ?_
  refine wpl_sl (n := 8) (pc' := 11) (ls' := [some (.long a0), none, some (.int a1)]) (st' := [.int (Int64.toInt32 ((XT.ushrL a0 ((16 : Int32) * a1)) &&& (65535 : Int64)))]) rfl ?_
  exact wpl_ret rfl rfl rfl ⟨(Int64.toInt32 ((XT.ushrL a0 ((16 : Int32) * a1)) &&& (65535 : Int64))), rfl, h⟩
theorem c25_in (a1 : Int32) (a2 : Int32) (a3 : Int32) (a4 : Int32) (s : St) (Q : St → Prop) (h : calI PP 22 16 [.ref 0, .int a1] s (fun v585 s584 => ((v585 = (0 : Int32)) → inb 128 ((a2 * (4 : Int32)) + a3) ∧ Q (sI s584 1 (ix ((a2 * (4 : Int32)) + a3)) a4)) ∧ (¬ (v585 = (0 : Int32)) → inb 32 ((a1 * (4 : Int32)) + a3) ∧ Q (sI s584 3 (ix ((a1 * (4 : Int32)) + a3)) a4)))) : calV PP 25 16 [.ref 0, .int a1, .int a2, .int a3, .int a4] s Q := by
  refine cal_of (me := cm25) (ls := [some (.ref 0), some (.int a1), some (.int a2), some (.int a3), some (.int a4)]) rfl (Nat.le_of_ble_eq_true rfl) rfl ?_
  refine wpc_sl (n := 2) (c' := 16) (pc' := 2) (ls' := [some (.ref 0), some (.int a1), some (.int a2), some (.int a3), some (.int a4)]) (st' := [.int a1, .ref 0]) (s' := s) rfl ?_
  refine wpc_callI (m' := 22) (me' := cm22) (as := [.int a1]) (r := []) rfl rfl rfl rfl rfl ⟨by decide, (by first | decide | exact Nat.le_of_ble_eq_true rfl), (by first | decide | exact Nat.le_of_ble_eq_true rfl), rfl⟩ (calI.mono h fun v585 s584 h586 => ?_)
  refine wpc_if (a := 23) (b := 8) rfl (by decide) rfl rfl (wpc_br (p := v585 = (0 : Int32)) ⟨fun hc587 => ?_, fun hc587 => ?_⟩)
  · have h588 := h586.1 hc587
    refine wpc_sl (n := 8) (c' := 16) (pc' := 34) (ls' := [some (.ref 0), some (.int a1), some (.int a2), some (.int a3), some (.int a4)]) (st' := [.int a4, .int ((a2 * (4 : Int32)) + a3), .ref 1]) (s' := s584) rfl ?_
    refine wpc_staI (a := 0) (N := 128) (s' := (sI s584 1 (ix ((a2 * (4 : Int32)) + a3)) a4)) rfl rfl (by decide) h588.1 rfl ?_
    have h590 := h588.2
    exact wpc_ret rfl rfl (fun q => absurd q (by decide)) rfl ⟨rfl, h590⟩
  · have h589 := h586.2 hc587
    refine wpc_sl (n := 8) (c' := 16) (pc' := 19) (ls' := [some (.ref 0), some (.int a1), some (.int a2), some (.int a3), some (.int a4)]) (st' := [.int a4, .int ((a1 * (4 : Int32)) + a3), .ref 3]) (s' := s584) rfl ?_
    refine wpc_staI (a := 2) (N := 32) (s' := (sI s584 3 (ix ((a1 * (4 : Int32)) + a3)) a4)) rfl rfl (by decide) h589.1 rfl ?_
    have h591 := h589.2
    refine wpc_sl (n := 1) (c' := 16) (pc' := 35) (ls' := [some (.ref 0), some (.int a1), some (.int a2), some (.int a3), some (.int a4)]) (st' := []) (s' := (sI s584 3 (ix ((a1 * (4 : Int32)) + a3)) a4)) rfl ?_
    exact wpc_ret rfl rfl (fun q => absurd q (by decide)) rfl ⟨rfl, h591⟩
theorem c28_in (a1 : Int32) (s : St) (Q : St → Prop) (h : calI PP 22 16 [.ref 0, .int a1] s (fun v593 s592 => ((v593 = (0 : Int32)) → Q s592) ∧ (¬ (v593 = (0 : Int32)) → inb 8 a1 ∧ inb 8 a1 ∧ Q (sI (sI s592 5 (ix a1) (1 : Int32)) 6 (ix a1) (1 : Int32))))) : calV PP 28 16 [.ref 0, .int a1] s Q := by
  refine cal_of (me := cm28) (ls := [some (.ref 0), some (.int a1)]) rfl (Nat.le_of_ble_eq_true rfl) rfl ?_
  refine wpc_sl (n := 2) (c' := 16) (pc' := 2) (ls' := [some (.ref 0), some (.int a1)]) (st' := [.int a1, .ref 0]) (s' := s) rfl ?_
  refine wpc_callI (m' := 22) (me' := cm22) (as := [.int a1]) (r := []) rfl rfl rfl rfl rfl ⟨by decide, (by first | decide | exact Nat.le_of_ble_eq_true rfl), (by first | decide | exact Nat.le_of_ble_eq_true rfl), rfl⟩ (calI.mono h fun v593 s592 h594 => ?_)
  refine wpc_if (a := 22) (b := 8) rfl (by decide) rfl rfl (wpc_br (p := v593 = (0 : Int32)) ⟨fun hc595 => ?_, fun hc595 => ?_⟩)
  · have h596 := h594.1 hc595
    exact wpc_ret rfl rfl (fun q => absurd q (by decide)) rfl ⟨rfl, h596⟩
  · have h597 := h594.2 hc595
    refine wpc_sl (n := 4) (c' := 16) (pc' := 14) (ls' := [some (.ref 0), some (.int a1)]) (st' := [.int (1 : Int32), .int a1, .ref 5]) (s' := s592) rfl ?_
    refine wpc_staZ (a := 4) (N := 8) (s' := (sI s592 5 (ix a1) (1 : Int32))) rfl rfl (by decide) h597.1 rfl ?_
    have h598 := h597.2
    refine wpc_sl (n := 4) (c' := 16) (pc' := 21) (ls' := [some (.ref 0), some (.int a1)]) (st' := [.int (1 : Int32), .int a1, .ref 6]) (s' := (sI s592 5 (ix a1) (1 : Int32))) rfl ?_
    refine wpc_staZ (a := 5) (N := 8) (s' := (sI (sI s592 5 (ix a1) (1 : Int32)) 6 (ix a1) (1 : Int32))) rfl rfl (by decide) h598.1 rfl ?_
    have h599 := h598.2
    exact wpc_ret rfl rfl (fun q => absurd q (by decide)) rfl ⟨rfl, h599⟩
theorem c7_in (a1 : Int32) (a2 : Int32) (a3 : Int32) (s : St) (Q : Int32 → St → Prop) (h : calI PP 19 16 [.ref 0, .int a1] s (fun v555 s554 => ((v555 = (0 : Int32)) → calI PP 20 16 [.ref 0, .int a2] s554 (fun v561 s560 => ((v561 = (0 : Int32)) → calI PP 32 16 [.ref 0, .int a1, .int a2, .int (0 : Int32)] s560 (fun v567 s566 => wpcI PP 7 cm7 16 40 [some (.ref 0), some (.int a1), some (.int a2), none, some (.int (a3 &&& (65535 : Int32))), some (.int v567), some (.int (0 : Int32))] [] s566 Q)) ∧ (¬ (v561 = (0 : Int32)) → Q (-3 : Int32) s560))) ∧ (¬ (v555 = (0 : Int32)) → Q (-2 : Int32) s554))) : calI PP 7 16 [.ref 0, .int a1, .int a2, .int a3] s Q := by
  refine cal_of (me := cm7) (ls := [some (.ref 0), some (.int a1), some (.int a2), some (.int a3), none, none, none]) rfl (Nat.le_of_ble_eq_true rfl) rfl ?_
  refine wpc_sl (n := 2) (c' := 16) (pc' := 2) (ls' := [some (.ref 0), some (.int a1), some (.int a2), some (.int a3), none, none, none]) (st' := [.int a1, .ref 0]) (s' := s) rfl ?_
  refine wpc_callI (m' := 19) (me' := cm19) (as := [.int a1]) (r := []) rfl rfl rfl rfl rfl ⟨by decide, (by first | decide | exact Nat.le_of_ble_eq_true rfl), (by first | decide | exact Nat.le_of_ble_eq_true rfl), rfl⟩ (calI.mono h fun v555 s554 h556 => ?_)
  refine wpc_if (a := 11) (b := 8) rfl (by decide) rfl rfl (wpc_br (p := v555 = (0 : Int32)) ⟨fun hc557 => ?_, fun hc557 => ?_⟩)
  · have h558 := h556.1 hc557
    refine wpc_sl (n := 2) (c' := 16) (pc' := 13) (ls' := [some (.ref 0), some (.int a1), some (.int a2), some (.int a3), none, none, none]) (st' := [.int a2, .ref 0]) (s' := s554) rfl ?_
    refine wpc_callI (m' := 20) (me' := cm20) (as := [.int a2]) (r := []) rfl rfl rfl rfl rfl ⟨by decide, (by first | decide | exact Nat.le_of_ble_eq_true rfl), (by first | decide | exact Nat.le_of_ble_eq_true rfl), rfl⟩ (calI.mono h558 fun v561 s560 h562 => ?_)
    refine wpc_if (a := 22) (b := 19) rfl (by decide) rfl rfl (wpc_br (p := v561 = (0 : Int32)) ⟨fun hc563 => ?_, fun hc563 => ?_⟩)
    · have h564 := h562.1 hc563
      refine wpc_sl (n := 8) (c' := 16) (pc' := 32) (ls' := [some (.ref 0), some (.int a1), some (.int a2), some (.int a3), some (.int (a3 &&& (65535 : Int32))), none, none]) (st' := [.int (0 : Int32), .int a2, .int a1, .ref 0]) (s' := s560) rfl ?_
      refine wpc_callI (m' := 32) (me' := cm32) (as := [.int a1, .int a2, .int (0 : Int32)]) (r := []) rfl rfl rfl rfl rfl ⟨by decide, (by first | decide | exact Nat.le_of_ble_eq_true rfl), (by first | decide | exact Nat.le_of_ble_eq_true rfl), rfl⟩ (calI.mono h564 fun v567 s566 h568 => ?_)
      refine wpc_sl (n := 3) (c' := 16) (pc' := 40) (ls' := [some (.ref 0), some (.int a1), some (.int a2), some (.int a3), some (.int (a3 &&& (65535 : Int32))), some (.int v567), some (.int (0 : Int32))]) (st' := []) (s' := s566) rfl ?_
      exact wpc_lle (ls := [some (.ref 0), some (.int a1), some (.int a2), none, some (.int (a3 &&& (65535 : Int32))), some (.int v567), some (.int (0 : Int32))]) ⟨rfl, rfl, rfl, rfl, rfl, rfl, trivial⟩ h568
    · have h565 := h562.2 hc563
      refine wpc_sl (n := 1) (c' := 16) (pc' := 21) (ls' := [some (.ref 0), some (.int a1), some (.int a2), some (.int a3), none, none, none]) (st' := [.int (-3 : Int32)]) (s' := s560) rfl ?_
      exact wpc_ret rfl rfl (fun q => absurd q (by decide)) rfl ⟨(-3 : Int32), rfl, h565⟩
  · have h559 := h556.2 hc557
    refine wpc_sl (n := 1) (c' := 16) (pc' := 10) (ls' := [some (.ref 0), some (.int a1), some (.int a2), some (.int a3), none, none, none]) (st' := [.int (-2 : Int32)]) (s' := s554) rfl ?_
    exact wpc_ret rfl rfl (fun q => absurd q (by decide)) rfl ⟨(-2 : Int32), rfl, h559⟩
theorem c7_40 (x1 : Int32) (x2 : Int32) (x4 : Int32) (x5 : Int32) (x6 : Int32) (s : St) (Q : Int32 → St → Prop) (h : ((x6 < (4 : Int32)) → calV PP 25 16 [.ref 0, .int x5, .int x2, .int x6, .int x4] s (fun s572 => wpcI PP 7 cm7 16 40 [some (.ref 0), some (.int x1), some (.int x2), none, some (.int x4), some (.int x5), some (.int (x6 + (1 : Int32)))] [] s572 Q)) ∧ (¬ (x6 < (4 : Int32)) → calV PP 28 16 [.ref 0, .int x5] s (fun s575 => calV PP 29 16 [.ref 0, .int x5] s575 (fun s578 => inb 32 x2 ∧ inb 4 x1 ∧ inb 4 x1 ∧ Q (0 : Int32) (sI (sI s578 2 (ix x2) (0 : Int32)) 15 (ix x1) ((gI s578 15 (ix x1)) + (1 : Int32))))))) : wpcI PP 7 cm7 16 40 [some (.ref 0), some (.int x1), some (.int x2), none, some (.int x4), some (.int x5), some (.int x6)] [] s Q := by
  refine wpc_sl (n := 2) (c' := 16) (pc' := 43) (ls' := [some (.ref 0), some (.int x1), some (.int x2), none, some (.int x4), some (.int x5), some (.int x6)]) (st' := [.int (4 : Int32), .int x6]) (s' := s) rfl ?_
  refine wpc_icmp (a := 63) (b := 46) rfl (by decide) rfl rfl (wpc_br (p := x6 < (4 : Int32)) ⟨fun hc569 => ?_, fun hc569 => ?_⟩)
  · have h570 := h.1 hc569
    refine wpc_sl (n := 5) (c' := 16) (pc' := 54) (ls' := [some (.ref 0), some (.int x1), some (.int x2), none, some (.int x4), some (.int x5), some (.int x6)]) (st' := [.int x4, .int x6, .int x2, .int x5, .ref 0]) (s' := s) rfl ?_
    refine wpc_callV (m' := 25) (me' := cm25) (as := [.int x5, .int x2, .int x6, .int x4]) (r := []) rfl rfl rfl rfl rfl ⟨by decide, (by first | decide | exact Nat.le_of_ble_eq_true rfl), (by first | decide | exact Nat.le_of_ble_eq_true rfl), rfl⟩ (calV.mono h570 fun s572 h574 => ?_)
    refine wpc_sl (n := 2) (c' := 16) (pc' := 40) (ls' := [some (.ref 0), some (.int x1), some (.int x2), none, some (.int x4), some (.int x5), some (.int (x6 + (1 : Int32)))]) (st' := []) (s' := s572) rfl ?_
    exact h574
  · have h571 := h.2 hc569
    refine wpc_sl (n := 2) (c' := 16) (pc' := 66) (ls' := [some (.ref 0), some (.int x1), some (.int x2), none, some (.int x4), some (.int x5), some (.int x6)]) (st' := [.int x5, .ref 0]) (s' := s) rfl ?_
    refine wpc_callV (m' := 28) (me' := cm28) (as := [.int x5]) (r := []) rfl rfl rfl rfl rfl ⟨by decide, (by first | decide | exact Nat.le_of_ble_eq_true rfl), (by first | decide | exact Nat.le_of_ble_eq_true rfl), rfl⟩ (calV.mono h571 fun s575 h577 => ?_)
    refine wpc_sl (n := 2) (c' := 16) (pc' := 72) (ls' := [some (.ref 0), some (.int x1), some (.int x2), none, some (.int x4), some (.int x5), some (.int x6)]) (st' := [.int x5, .ref 0]) (s' := s575) rfl ?_
    refine wpc_callV (m' := 29) (me' := cm29) (as := [.int x5]) (r := []) rfl rfl rfl rfl rfl ⟨by decide, (by first | decide | exact Nat.le_of_ble_eq_true rfl), (by first | decide | exact Nat.le_of_ble_eq_true rfl), rfl⟩ (calV.mono h577 fun s578 h580 => ?_)
    refine wpc_sl (n := 4) (c' := 16) (pc' := 81) (ls' := [some (.ref 0), some (.int x1), some (.int x2), none, some (.int x4), some (.int x5), some (.int x6)]) (st' := [.int (0 : Int32), .int x2, .ref 2]) (s' := s578) rfl ?_
    refine wpc_staZ (a := 1) (N := 32) (s' := (sI s578 2 (ix x2) (0 : Int32))) rfl rfl (by decide) h580.1 rfl ?_
    have h581 := h580.2
    refine wpc_sl (n := 6) (c' := 16) (pc' := 92) (ls' := [some (.ref 0), some (.int x1), some (.int x2), none, some (.int x4), some (.int x5), some (.int x6)]) (st' := [.int x1, .ref 15, .int x1, .ref 15]) (s' := (sI s578 2 (ix x2) (0 : Int32))) rfl ?_
    refine wpc_ldaI (a := 14) (N := 4) (v := (gI s578 15 (ix x1))) rfl rfl (by decide) h581.1 rfl ?_
    have h582 := h581.2
    refine wpc_sl (n := 2) (c' := 16) (pc' := 95) (ls' := [some (.ref 0), some (.int x1), some (.int x2), none, some (.int x4), some (.int x5), some (.int x6)]) (st' := [.int ((gI s578 15 (ix x1)) + (1 : Int32)), .int x1, .ref 15]) (s' := (sI s578 2 (ix x2) (0 : Int32))) rfl ?_
    refine wpc_staI (a := 14) (N := 4) (s' := (sI (sI s578 2 (ix x2) (0 : Int32)) 15 (ix x1) ((gI s578 15 (ix x1)) + (1 : Int32)))) rfl rfl (by decide) h582.1 rfl ?_
    have h583 := h582.2
    refine wpc_sl (n := 1) (c' := 16) (pc' := 97) (ls' := [some (.ref 0), some (.int x1), some (.int x2), none, some (.int x4), some (.int x5), some (.int x6)]) (st' := [.int (0 : Int32)]) (s' := (sI (sI s578 2 (ix x2) (0 : Int32)) 15 (ix x1) ((gI s578 15 (ix x1)) + (1 : Int32)))) rfl ?_
    exact wpc_ret rfl rfl (fun q => absurd q (by decide)) rfl ⟨(0 : Int32), rfl, h583⟩
theorem c27_in (a1 : Int32) (s : St) (Q : St → Prop) (h : calI PP 22 16 [.ref 0, .int a1] s (fun v639 s638 => ((v639 = (0 : Int32)) → Q s638) ∧ (¬ (v639 = (0 : Int32)) → inb 8 a1 ∧ Q (sI s638 6 (ix a1) (1 : Int32))))) : calV PP 27 16 [.ref 0, .int a1] s Q := by
  refine cal_of (me := cm27) (ls := [some (.ref 0), some (.int a1)]) rfl (Nat.le_of_ble_eq_true rfl) rfl ?_
  refine wpc_sl (n := 2) (c' := 16) (pc' := 2) (ls' := [some (.ref 0), some (.int a1)]) (st' := [.int a1, .ref 0]) (s' := s) rfl ?_
  refine wpc_callI (m' := 22) (me' := cm22) (as := [.int a1]) (r := []) rfl rfl rfl rfl rfl ⟨by decide, (by first | decide | exact Nat.le_of_ble_eq_true rfl), (by first | decide | exact Nat.le_of_ble_eq_true rfl), rfl⟩ (calI.mono h fun v639 s638 h640 => ?_)
  refine wpc_if (a := 15) (b := 8) rfl (by decide) rfl rfl (wpc_br (p := v639 = (0 : Int32)) ⟨fun hc641 => ?_, fun hc641 => ?_⟩)
  · have h642 := h640.1 hc641
    exact wpc_ret rfl rfl (fun q => absurd q (by decide)) rfl ⟨rfl, h642⟩
  · have h643 := h640.2 hc641
    refine wpc_sl (n := 4) (c' := 16) (pc' := 14) (ls' := [some (.ref 0), some (.int a1)]) (st' := [.int (1 : Int32), .int a1, .ref 6]) (s' := s638) rfl ?_
    refine wpc_staZ (a := 5) (N := 8) (s' := (sI s638 6 (ix a1) (1 : Int32))) rfl rfl (by decide) h643.1 rfl ?_
    have h644 := h643.2
    exact wpc_ret rfl rfl (fun q => absurd q (by decide)) rfl ⟨rfl, h644⟩
theorem c23_in (a1 : Int32) (a2 : Int32) (a3 : Int32) (a4 : Int32) (s : St) (Q : St → Prop) (h : calI PP 24 16 [.ref 0, .int a2, .int a3, .int (0 : Int32)] s (fun v646 s645 => calI PP 24 16 [.ref 0, .int a2, .int a3, .int (1 : Int32)] s645 (fun v649 s648 => calI PP 24 16 [.ref 0, .int a2, .int a3, .int (2 : Int32)] s648 (fun v652 s651 => calI PP 24 16 [.ref 0, .int a2, .int a3, .int (3 : Int32)] s651 (fun v655 s654 => calI PP 32 16 [.ref 0, .int a1, .int a4, .int (0 : Int32)] s654 (fun v658 s657 => calV PP 25 16 [.ref 0, .int v658, .int a4, .int (0 : Int32), .int v646] s657 (fun s660 => calV PP 25 16 [.ref 0, .int v658, .int a4, .int (1 : Int32), .int v649] s660 (fun s663 => calV PP 25 16 [.ref 0, .int v658, .int a4, .int (2 : Int32), .int v652] s663 (fun s666 => calV PP 25 16 [.ref 0, .int v658, .int a4, .int (3 : Int32), .int v655] s666 (fun s669 => calV PP 28 16 [.ref 0, .int v658] s669 (fun s672 => calV PP 29 16 [.ref 0, .int v658] s672 (fun s675 => calV PP 29 16 [.ref 0, .int a2] s675 (fun s678 => Q s678))))))))))))) : calV PP 23 16 [.ref 0, .int a1, .int a2, .int a3, .int a4] s Q := by
  refine cal_of (me := cm23) (ls := [some (.ref 0), some (.int a1), some (.int a2), some (.int a3), some (.int a4), none, none, none, none, none]) rfl (Nat.le_of_ble_eq_true rfl) rfl ?_
  refine wpc_sl (n := 4) (c' := 16) (pc' := 4) (ls' := [some (.ref 0), some (.int a1), some (.int a2), some (.int a3), some (.int a4), none, none, none, none, none]) (st' := [.int (0 : Int32), .int a3, .int a2, .ref 0]) (s' := s) rfl ?_
  refine wpc_callI (m' := 24) (me' := cm24) (as := [.int a2, .int a3, .int (0 : Int32)]) (r := []) rfl rfl rfl rfl rfl ⟨by decide, (by first | decide | exact Nat.le_of_ble_eq_true rfl), (by first | decide | exact Nat.le_of_ble_eq_true rfl), rfl⟩ (calI.mono h fun v646 s645 h647 => ?_)
  refine wpc_sl (n := 5) (c' := 16) (pc' := 13) (ls' := [some (.ref 0), some (.int a1), some (.int a2), some (.int a3), some (.int a4), some (.int v646), none, none, none, none]) (st' := [.int (1 : Int32), .int a3, .int a2, .ref 0]) (s' := s645) rfl ?_
  refine wpc_callI (m' := 24) (me' := cm24) (as := [.int a2, .int a3, .int (1 : Int32)]) (r := []) rfl rfl rfl rfl rfl ⟨by decide, (by first | decide | exact Nat.le_of_ble_eq_true rfl), (by first | decide | exact Nat.le_of_ble_eq_true rfl), rfl⟩ (calI.mono h647 fun v649 s648 h650 => ?_)
  refine wpc_sl (n := 5) (c' := 16) (pc' := 22) (ls' := [some (.ref 0), some (.int a1), some (.int a2), some (.int a3), some (.int a4), some (.int v646), some (.int v649), none, none, none]) (st' := [.int (2 : Int32), .int a3, .int a2, .ref 0]) (s' := s648) rfl ?_
  refine wpc_callI (m' := 24) (me' := cm24) (as := [.int a2, .int a3, .int (2 : Int32)]) (r := []) rfl rfl rfl rfl rfl ⟨by decide, (by first | decide | exact Nat.le_of_ble_eq_true rfl), (by first | decide | exact Nat.le_of_ble_eq_true rfl), rfl⟩ (calI.mono h650 fun v652 s651 h653 => ?_)
  refine wpc_sl (n := 5) (c' := 16) (pc' := 31) (ls' := [some (.ref 0), some (.int a1), some (.int a2), some (.int a3), some (.int a4), some (.int v646), some (.int v649), some (.int v652), none, none]) (st' := [.int (3 : Int32), .int a3, .int a2, .ref 0]) (s' := s651) rfl ?_
  refine wpc_callI (m' := 24) (me' := cm24) (as := [.int a2, .int a3, .int (3 : Int32)]) (r := []) rfl rfl rfl rfl rfl ⟨by decide, (by first | decide | exact Nat.le_of_ble_eq_true rfl), (by first | decide | exact Nat.le_of_ble_eq_true rfl), rfl⟩ (calI.mono h653 fun v655 s654 h656 => ?_)
  refine wpc_sl (n := 5) (c' := 16) (pc' := 41) (ls' := [some (.ref 0), some (.int a1), some (.int a2), some (.int a3), some (.int a4), some (.int v646), some (.int v649), some (.int v652), some (.int v655), none]) (st' := [.int (0 : Int32), .int a4, .int a1, .ref 0]) (s' := s654) rfl ?_
  refine wpc_callI (m' := 32) (me' := cm32) (as := [.int a1, .int a4, .int (0 : Int32)]) (r := []) rfl rfl rfl rfl rfl ⟨by decide, (by first | decide | exact Nat.le_of_ble_eq_true rfl), (by first | decide | exact Nat.le_of_ble_eq_true rfl), rfl⟩ (calI.mono h656 fun v658 s657 h659 => ?_)
  refine wpc_sl (n := 6) (c' := 16) (pc' := 54) (ls' := [some (.ref 0), some (.int a1), some (.int a2), some (.int a3), some (.int a4), some (.int v646), some (.int v649), some (.int v652), some (.int v655), some (.int v658)]) (st' := [.int v646, .int (0 : Int32), .int a4, .int v658, .ref 0]) (s' := s657) rfl ?_
  refine wpc_callV (m' := 25) (me' := cm25) (as := [.int v658, .int a4, .int (0 : Int32), .int v646]) (r := []) rfl rfl rfl rfl rfl ⟨by decide, (by first | decide | exact Nat.le_of_ble_eq_true rfl), (by first | decide | exact Nat.le_of_ble_eq_true rfl), rfl⟩ (calV.mono h659 fun s660 h662 => ?_)
  refine wpc_sl (n := 5) (c' := 16) (pc' := 65) (ls' := [some (.ref 0), some (.int a1), some (.int a2), some (.int a3), some (.int a4), some (.int v646), some (.int v649), some (.int v652), some (.int v655), some (.int v658)]) (st' := [.int v649, .int (1 : Int32), .int a4, .int v658, .ref 0]) (s' := s660) rfl ?_
  refine wpc_callV (m' := 25) (me' := cm25) (as := [.int v658, .int a4, .int (1 : Int32), .int v649]) (r := []) rfl rfl rfl rfl rfl ⟨by decide, (by first | decide | exact Nat.le_of_ble_eq_true rfl), (by first | decide | exact Nat.le_of_ble_eq_true rfl), rfl⟩ (calV.mono h662 fun s663 h665 => ?_)
  refine wpc_sl (n := 5) (c' := 16) (pc' := 76) (ls' := [some (.ref 0), some (.int a1), some (.int a2), some (.int a3), some (.int a4), some (.int v646), some (.int v649), some (.int v652), some (.int v655), some (.int v658)]) (st' := [.int v652, .int (2 : Int32), .int a4, .int v658, .ref 0]) (s' := s663) rfl ?_
  refine wpc_callV (m' := 25) (me' := cm25) (as := [.int v658, .int a4, .int (2 : Int32), .int v652]) (r := []) rfl rfl rfl rfl rfl ⟨by decide, (by first | decide | exact Nat.le_of_ble_eq_true rfl), (by first | decide | exact Nat.le_of_ble_eq_true rfl), rfl⟩ (calV.mono h665 fun s666 h668 => ?_)
  refine wpc_sl (n := 5) (c' := 16) (pc' := 87) (ls' := [some (.ref 0), some (.int a1), some (.int a2), some (.int a3), some (.int a4), some (.int v646), some (.int v649), some (.int v652), some (.int v655), some (.int v658)]) (st' := [.int v655, .int (3 : Int32), .int a4, .int v658, .ref 0]) (s' := s666) rfl ?_
  refine wpc_callV (m' := 25) (me' := cm25) (as := [.int v658, .int a4, .int (3 : Int32), .int v655]) (r := []) rfl rfl rfl rfl rfl ⟨by decide, (by first | decide | exact Nat.le_of_ble_eq_true rfl), (by first | decide | exact Nat.le_of_ble_eq_true rfl), rfl⟩ (calV.mono h668 fun s669 h671 => ?_)
  refine wpc_sl (n := 2) (c' := 16) (pc' := 93) (ls' := [some (.ref 0), some (.int a1), some (.int a2), some (.int a3), some (.int a4), some (.int v646), some (.int v649), some (.int v652), some (.int v655), some (.int v658)]) (st' := [.int v658, .ref 0]) (s' := s669) rfl ?_
  refine wpc_callV (m' := 28) (me' := cm28) (as := [.int v658]) (r := []) rfl rfl rfl rfl rfl ⟨by decide, (by first | decide | exact Nat.le_of_ble_eq_true rfl), (by first | decide | exact Nat.le_of_ble_eq_true rfl), rfl⟩ (calV.mono h671 fun s672 h674 => ?_)
  refine wpc_sl (n := 2) (c' := 16) (pc' := 99) (ls' := [some (.ref 0), some (.int a1), some (.int a2), some (.int a3), some (.int a4), some (.int v646), some (.int v649), some (.int v652), some (.int v655), some (.int v658)]) (st' := [.int v658, .ref 0]) (s' := s672) rfl ?_
  refine wpc_callV (m' := 29) (me' := cm29) (as := [.int v658]) (r := []) rfl rfl rfl rfl rfl ⟨by decide, (by first | decide | exact Nat.le_of_ble_eq_true rfl), (by first | decide | exact Nat.le_of_ble_eq_true rfl), rfl⟩ (calV.mono h674 fun s675 h677 => ?_)
  refine wpc_sl (n := 2) (c' := 16) (pc' := 104) (ls' := [some (.ref 0), some (.int a1), some (.int a2), some (.int a3), some (.int a4), some (.int v646), some (.int v649), some (.int v652), some (.int v655), some (.int v658)]) (st' := [.int a2, .ref 0]) (s' := s675) rfl ?_
  refine wpc_callV (m' := 29) (me' := cm29) (as := [.int a2]) (r := []) rfl rfl rfl rfl rfl ⟨by decide, (by first | decide | exact Nat.le_of_ble_eq_true rfl), (by first | decide | exact Nat.le_of_ble_eq_true rfl), rfl⟩ (calV.mono h677 fun s678 h680 => ?_)
  exact wpc_ret rfl rfl (fun q => absurd q (by decide)) rfl ⟨rfl, h680⟩
theorem c8_in (a1 : Int32) (a2 : Int32) (a3 : Int32) (s : St) (Q : Int32 → St → Prop) (h : calI PP 19 16 [.ref 0, .int a1] s (fun v601 s600 => ((v601 = (0 : Int32)) → calI PP 20 16 [.ref 0, .int a2] s600 (fun v607 s606 => ((v607 = (0 : Int32)) → calI PP 20 16 [.ref 0, .int a3] s606 (fun v613 s612 => ((v613 = (0 : Int32)) → calI PP 32 16 [.ref 0, .int a1, .int a2, .int (1 : Int32)] s612 (fun v619 s618 => ((a2 = a3) → calV PP 27 16 [.ref 0, .int v619] s618 (fun s624 => calV PP 29 16 [.ref 0, .int v619] s624 (fun s627 => wpcI PP 8 cm8 16 71 [some (.ref 0), some (.int a1), none, some (.int a3), none] [] s627 Q))) ∧ (¬ (a2 = a3) → calV PP 23 16 [.ref 0, .int a1, .int v619, .int a2, .int a3] s618 (fun s630 => wpcI PP 8 cm8 16 71 [some (.ref 0), some (.int a1), none, some (.int a3), none] [] s630 Q)))) ∧ (¬ (v613 = (0 : Int32)) → Q (-3 : Int32) s612))) ∧ (¬ (v607 = (0 : Int32)) → Q (-3 : Int32) s606))) ∧ (¬ (v601 = (0 : Int32)) → Q (-2 : Int32) s600))) : calI PP 8 16 [.ref 0, .int a1, .int a2, .int a3] s Q := by
  refine cal_of (me := cm8) (ls := [some (.ref 0), some (.int a1), some (.int a2), some (.int a3), none]) rfl (Nat.le_of_ble_eq_true rfl) rfl ?_
  refine wpc_sl (n := 2) (c' := 16) (pc' := 2) (ls' := [some (.ref 0), some (.int a1), some (.int a2), some (.int a3), none]) (st' := [.int a1, .ref 0]) (s' := s) rfl ?_
  refine wpc_callI (m' := 19) (me' := cm19) (as := [.int a1]) (r := []) rfl rfl rfl rfl rfl ⟨by decide, (by first | decide | exact Nat.le_of_ble_eq_true rfl), (by first | decide | exact Nat.le_of_ble_eq_true rfl), rfl⟩ (calI.mono h fun v601 s600 h602 => ?_)
  refine wpc_if (a := 11) (b := 8) rfl (by decide) rfl rfl (wpc_br (p := v601 = (0 : Int32)) ⟨fun hc603 => ?_, fun hc603 => ?_⟩)
  · have h604 := h602.1 hc603
    refine wpc_sl (n := 2) (c' := 16) (pc' := 13) (ls' := [some (.ref 0), some (.int a1), some (.int a2), some (.int a3), none]) (st' := [.int a2, .ref 0]) (s' := s600) rfl ?_
    refine wpc_callI (m' := 20) (me' := cm20) (as := [.int a2]) (r := []) rfl rfl rfl rfl rfl ⟨by decide, (by first | decide | exact Nat.le_of_ble_eq_true rfl), (by first | decide | exact Nat.le_of_ble_eq_true rfl), rfl⟩ (calI.mono h604 fun v607 s606 h608 => ?_)
    refine wpc_if (a := 22) (b := 19) rfl (by decide) rfl rfl (wpc_br (p := v607 = (0 : Int32)) ⟨fun hc609 => ?_, fun hc609 => ?_⟩)
    · have h610 := h608.1 hc609
      refine wpc_sl (n := 2) (c' := 16) (pc' := 24) (ls' := [some (.ref 0), some (.int a1), some (.int a2), some (.int a3), none]) (st' := [.int a3, .ref 0]) (s' := s606) rfl ?_
      refine wpc_callI (m' := 20) (me' := cm20) (as := [.int a3]) (r := []) rfl rfl rfl rfl rfl ⟨by decide, (by first | decide | exact Nat.le_of_ble_eq_true rfl), (by first | decide | exact Nat.le_of_ble_eq_true rfl), rfl⟩ (calI.mono h610 fun v613 s612 h614 => ?_)
      refine wpc_if (a := 33) (b := 30) rfl (by decide) rfl rfl (wpc_br (p := v613 = (0 : Int32)) ⟨fun hc615 => ?_, fun hc615 => ?_⟩)
      · have h616 := h614.1 hc615
        refine wpc_sl (n := 4) (c' := 16) (pc' := 37) (ls' := [some (.ref 0), some (.int a1), some (.int a2), some (.int a3), none]) (st' := [.int (1 : Int32), .int a2, .int a1, .ref 0]) (s' := s612) rfl ?_
        refine wpc_callI (m' := 32) (me' := cm32) (as := [.int a1, .int a2, .int (1 : Int32)]) (r := []) rfl rfl rfl rfl rfl ⟨by decide, (by first | decide | exact Nat.le_of_ble_eq_true rfl), (by first | decide | exact Nat.le_of_ble_eq_true rfl), rfl⟩ (calI.mono h616 fun v619 s618 h620 => ?_)
        refine wpc_sl (n := 3) (c' := 16) (pc' := 44) (ls' := [some (.ref 0), some (.int a1), some (.int a2), some (.int a3), some (.int v619)]) (st' := [.int a3, .int a2]) (s' := s618) rfl ?_
        refine wpc_icmp (a := 62) (b := 47) rfl (by decide) rfl rfl (wpc_br (p := a2 = a3) ⟨fun hc621 => ?_, fun hc621 => ?_⟩)
        · have h622 := h620.1 hc621
          refine wpc_sl (n := 2) (c' := 16) (pc' := 50) (ls' := [some (.ref 0), some (.int a1), some (.int a2), some (.int a3), some (.int v619)]) (st' := [.int v619, .ref 0]) (s' := s618) rfl ?_
          refine wpc_callV (m' := 27) (me' := cm27) (as := [.int v619]) (r := []) rfl rfl rfl rfl rfl ⟨by decide, (by first | decide | exact Nat.le_of_ble_eq_true rfl), (by first | decide | exact Nat.le_of_ble_eq_true rfl), rfl⟩ (calV.mono h622 fun s624 h626 => ?_)
          refine wpc_sl (n := 2) (c' := 16) (pc' := 56) (ls' := [some (.ref 0), some (.int a1), some (.int a2), some (.int a3), some (.int v619)]) (st' := [.int v619, .ref 0]) (s' := s624) rfl ?_
          refine wpc_callV (m' := 29) (me' := cm29) (as := [.int v619]) (r := []) rfl rfl rfl rfl rfl ⟨by decide, (by first | decide | exact Nat.le_of_ble_eq_true rfl), (by first | decide | exact Nat.le_of_ble_eq_true rfl), rfl⟩ (calV.mono h626 fun s627 h629 => ?_)
          refine wpc_sl (n := 1) (c' := 16) (pc' := 71) (ls' := [some (.ref 0), some (.int a1), some (.int a2), some (.int a3), some (.int v619)]) (st' := []) (s' := s627) rfl ?_
          exact wpc_lle (ls := [some (.ref 0), some (.int a1), none, some (.int a3), none]) ⟨rfl, rfl, rfl, trivial⟩ h629
        · have h623 := h620.2 hc621
          refine wpc_sl (n := 5) (c' := 16) (pc' := 68) (ls' := [some (.ref 0), some (.int a1), some (.int a2), some (.int a3), some (.int v619)]) (st' := [.int a3, .int a2, .int v619, .int a1, .ref 0]) (s' := s618) rfl ?_
          refine wpc_callV (m' := 23) (me' := cm23) (as := [.int a1, .int v619, .int a2, .int a3]) (r := []) rfl rfl rfl rfl rfl ⟨by decide, (by first | decide | exact Nat.le_of_ble_eq_true rfl), (by first | decide | exact Nat.le_of_ble_eq_true rfl), rfl⟩ (calV.mono h623 fun s630 h632 => ?_)
          exact wpc_lle (ls := [some (.ref 0), some (.int a1), none, some (.int a3), none]) ⟨rfl, rfl, rfl, trivial⟩ h632
      · have h617 := h614.2 hc615
        refine wpc_sl (n := 1) (c' := 16) (pc' := 32) (ls' := [some (.ref 0), some (.int a1), some (.int a2), some (.int a3), none]) (st' := [.int (-3 : Int32)]) (s' := s612) rfl ?_
        exact wpc_ret rfl rfl (fun q => absurd q (by decide)) rfl ⟨(-3 : Int32), rfl, h617⟩
    · have h611 := h608.2 hc609
      refine wpc_sl (n := 1) (c' := 16) (pc' := 21) (ls' := [some (.ref 0), some (.int a1), some (.int a2), some (.int a3), none]) (st' := [.int (-3 : Int32)]) (s' := s606) rfl ?_
      exact wpc_ret rfl rfl (fun q => absurd q (by decide)) rfl ⟨(-3 : Int32), rfl, h611⟩
  · have h605 := h602.2 hc603
    refine wpc_sl (n := 1) (c' := 16) (pc' := 10) (ls' := [some (.ref 0), some (.int a1), some (.int a2), some (.int a3), none]) (st' := [.int (-2 : Int32)]) (s' := s600) rfl ?_
    exact wpc_ret rfl rfl (fun q => absurd q (by decide)) rfl ⟨(-2 : Int32), rfl, h605⟩
theorem c8_71 (x1 : Int32) (x3 : Int32) (s : St) (Q : Int32 → St → Prop) (h : inb 32 x3 ∧ inb 4 x1 ∧ inb 4 x1 ∧ inb 4 x1 ∧ inb 4 x1 ∧ Q (0 : Int32) (sI (sI (sI s 2 (ix x3) (0 : Int32)) 14 (ix x1) ((gI s 14 (ix x1)) + (1 : Int32))) 15 (ix x1) ((gI s 15 (ix x1)) + (1 : Int32)))) : wpcI PP 8 cm8 16 71 [some (.ref 0), some (.int x1), none, some (.int x3), none] [] s Q := by
  refine wpc_sl (n := 4) (c' := 16) (pc' := 77) (ls' := [some (.ref 0), some (.int x1), none, some (.int x3), none]) (st' := [.int (0 : Int32), .int x3, .ref 2]) (s' := s) rfl ?_
  refine wpc_staZ (a := 1) (N := 32) (s' := (sI s 2 (ix x3) (0 : Int32))) rfl rfl (by decide) h.1 rfl ?_
  have h633 := h.2
  refine wpc_sl (n := 6) (c' := 16) (pc' := 88) (ls' := [some (.ref 0), some (.int x1), none, some (.int x3), none]) (st' := [.int x1, .ref 14, .int x1, .ref 14]) (s' := (sI s 2 (ix x3) (0 : Int32))) rfl ?_
  refine wpc_ldaI (a := 13) (N := 4) (v := (gI s 14 (ix x1))) rfl rfl (by decide) h633.1 rfl ?_
  have h634 := h633.2
  refine wpc_sl (n := 2) (c' := 16) (pc' := 91) (ls' := [some (.ref 0), some (.int x1), none, some (.int x3), none]) (st' := [.int ((gI s 14 (ix x1)) + (1 : Int32)), .int x1, .ref 14]) (s' := (sI s 2 (ix x3) (0 : Int32))) rfl ?_
  refine wpc_staI (a := 13) (N := 4) (s' := (sI (sI s 2 (ix x3) (0 : Int32)) 14 (ix x1) ((gI s 14 (ix x1)) + (1 : Int32)))) rfl rfl (by decide) h634.1 rfl ?_
  have h635 := h634.2
  refine wpc_sl (n := 6) (c' := 16) (pc' := 102) (ls' := [some (.ref 0), some (.int x1), none, some (.int x3), none]) (st' := [.int x1, .ref 15, .int x1, .ref 15]) (s' := (sI (sI s 2 (ix x3) (0 : Int32)) 14 (ix x1) ((gI s 14 (ix x1)) + (1 : Int32)))) rfl ?_
  refine wpc_ldaI (a := 14) (N := 4) (v := (gI s 15 (ix x1))) rfl rfl (by decide) h635.1 rfl ?_
  have h636 := h635.2
  refine wpc_sl (n := 2) (c' := 16) (pc' := 105) (ls' := [some (.ref 0), some (.int x1), none, some (.int x3), none]) (st' := [.int ((gI s 15 (ix x1)) + (1 : Int32)), .int x1, .ref 15]) (s' := (sI (sI s 2 (ix x3) (0 : Int32)) 14 (ix x1) ((gI s 14 (ix x1)) + (1 : Int32)))) rfl ?_
  refine wpc_staI (a := 14) (N := 4) (s' := (sI (sI (sI s 2 (ix x3) (0 : Int32)) 14 (ix x1) ((gI s 14 (ix x1)) + (1 : Int32))) 15 (ix x1) ((gI s 15 (ix x1)) + (1 : Int32)))) rfl rfl (by decide) h636.1 rfl ?_
  have h637 := h636.2
  refine wpc_sl (n := 1) (c' := 16) (pc' := 107) (ls' := [some (.ref 0), some (.int x1), none, some (.int x3), none]) (st' := [.int (0 : Int32)]) (s' := (sI (sI (sI s 2 (ix x3) (0 : Int32)) 14 (ix x1) ((gI s 14 (ix x1)) + (1 : Int32))) 15 (ix x1) ((gI s 15 (ix x1)) + (1 : Int32)))) rfl ?_
  exact wpc_ret rfl rfl (fun q => absurd q (by decide)) rfl ⟨(0 : Int32), rfl, h637⟩
theorem c9_in (a1 : Int32) (s : St) (Q : St → Prop) (h : calI PP 18 16 [.ref 0, .int a1, .int (0 : Int32), .int (64 : Int32)] s (fun v682 s681 => wpcV PP 9 cm9 16 11 [some (.ref 0), none, some (.int v682), some (.int (0 : Int32))] [] s681 Q)) : calV PP 9 16 [.ref 0, .int a1] s Q := by
  refine cal_of (me := cm9) (ls := [some (.ref 0), some (.int a1), none, none]) rfl (Nat.le_of_ble_eq_true rfl) rfl ?_
  refine wpc_sl (n := 4) (c' := 16) (pc' := 5) (ls' := [some (.ref 0), some (.int a1), none, none]) (st' := [.int (64 : Int32), .int (0 : Int32), .int a1, .ref 0]) (s' := s) rfl ?_
  refine wpc_callI (m' := 18) (me' := cm18) (as := [.int a1, .int (0 : Int32), .int (64 : Int32)]) (r := []) rfl rfl rfl rfl rfl ⟨by decide, (by first | decide | exact Nat.le_of_ble_eq_true rfl), (by first | decide | exact Nat.le_of_ble_eq_true rfl), rfl⟩ (calI.mono h fun v682 s681 h683 => ?_)
  refine wpc_sl (n := 3) (c' := 16) (pc' := 11) (ls' := [some (.ref 0), some (.int a1), some (.int v682), some (.int (0 : Int32))]) (st' := []) (s' := s681) rfl ?_
  exact wpc_lle (ls := [some (.ref 0), none, some (.int v682), some (.int (0 : Int32))]) ⟨rfl, rfl, rfl, trivial⟩ h683
theorem c9_11 (x2 : Int32) (x3 : Int32) (s : St) (Q : St → Prop) (h : ((x3 < x2) → calI PP 40 16 [.ref 0] s (fun v688 s687 => ((v688 = (0 : Int32)) → Q s687) ∧ (¬ (v688 = (0 : Int32)) → wpcV PP 9 cm9 16 11 [some (.ref 0), none, some (.int x2), some (.int (x3 + (1 : Int32)))] [] s687 Q))) ∧ (¬ (x3 < x2) → Q s)) : wpcV PP 9 cm9 16 11 [some (.ref 0), none, some (.int x2), some (.int x3)] [] s Q := by
  refine wpc_sl (n := 2) (c' := 16) (pc' := 13) (ls' := [some (.ref 0), none, some (.int x2), some (.int x3)]) (st' := [.int x2, .int x3]) (s' := s) rfl ?_
  refine wpc_icmp (a := 32) (b := 16) rfl (by decide) rfl rfl (wpc_br (p := x3 < x2) ⟨fun hc684 => ?_, fun hc684 => ?_⟩)
  · have h685 := h.1 hc684
    refine wpc_sl (n := 1) (c' := 16) (pc' := 17) (ls' := [some (.ref 0), none, some (.int x2), some (.int x3)]) (st' := [.ref 0]) (s' := s) rfl ?_
    refine wpc_callI (m' := 40) (me' := cm40) (as := []) (r := []) rfl rfl rfl rfl rfl ⟨by decide, (by first | decide | exact Nat.le_of_ble_eq_true rfl), (by first | decide | exact Nat.le_of_ble_eq_true rfl), rfl⟩ (calI.mono h685 fun v688 s687 h689 => ?_)
    refine wpc_if (a := 26) (b := 23) rfl (by decide) rfl rfl (wpc_br (p := v688 = (0 : Int32)) ⟨fun hc690 => ?_, fun hc690 => ?_⟩)
    · have h691 := h689.1 hc690
      refine wpc_sl (n := 1) (c' := 16) (pc' := 32) (ls' := [some (.ref 0), none, some (.int x2), some (.int x3)]) (st' := []) (s' := s687) rfl ?_
      exact wpc_ret rfl rfl (fun q => absurd q (by decide)) rfl ⟨rfl, h691⟩
    · have h692 := h689.2 hc690
      refine wpc_sl (n := 2) (c' := 16) (pc' := 11) (ls' := [some (.ref 0), none, some (.int x2), some (.int (x3 + (1 : Int32)))]) (st' := []) (s' := s687) rfl ?_
      exact h692
  · have h686 := h.2 hc684
    exact wpc_ret rfl rfl (fun q => absurd q (by decide)) rfl ⟨rfl, h686⟩
theorem c10_in (a1 : Int32) (s : St) (Q : Int32 → St → Prop) (h : calI PP 20 16 [.ref 0, .int a1] s (fun v694 s693 => ((v694 = (0 : Int32)) → calI PP 31 16 [.ref 0, .int a1] s693 (fun v700 s699 => ((v700 < (0 : Int32)) → wpcI PP 10 cm10 16 77 [some (.ref 0), some (.int a1), none] [] s699 Q) ∧ (¬ (v700 < (0 : Int32)) → calV PP 35 16 [.ref 0, .int (-1 : Int32), .int v700] s699 (fun s705 => inb 8 v700 ∧ (((gI s705 6 (ix v700)) = (0 : Int32)) → wpcI PP 10 cm10 16 71 [some (.ref 0), some (.int a1), some (.int v700)] [] s705 Q) ∧ (¬ ((gI s705 6 (ix v700)) = (0 : Int32)) → inb 8 v700 ∧ (((gI s705 5 (ix v700)) = (0 : Int32)) → wpcI PP 10 cm10 16 71 [some (.ref 0), some (.int a1), some (.int v700)] [] s705 Q) ∧ (¬ ((gI s705 5 (ix v700)) = (0 : Int32)) → inb 8 v700 ∧ (((gI s705 7 (ix v700)) = (0 : Int32)) → calI PP 36 16 [.ref 0, .int v700, .int a1, .int (1 : Int32)] s705 (fun v721 s720 => ((v721 = (0 : Int32)) → wpcI PP 10 cm10 16 71 [some (.ref 0), some (.int a1), some (.int v700)] [] s720 Q) ∧ (¬ (v721 = (0 : Int32)) → inb 8 v700 ∧ wpcI PP 10 cm10 16 71 [some (.ref 0), some (.int a1), some (.int v700)] [] (sI s720 7 (ix v700) (1 : Int32)) Q))) ∧ (¬ ((gI s705 7 (ix v700)) = (0 : Int32)) → wpcI PP 10 cm10 16 71 [some (.ref 0), some (.int a1), some (.int v700)] [] s705 Q))))))) ∧ (¬ (v694 = (0 : Int32)) → Q (-3 : Int32) s693))) : calI PP 10 16 [.ref 0, .int a1] s Q := by
  refine cal_of (me := cm10) (ls := [some (.ref 0), some (.int a1), none]) rfl (Nat.le_of_ble_eq_true rfl) rfl ?_
  refine wpc_sl (n := 2) (c' := 16) (pc' := 2) (ls' := [some (.ref 0), some (.int a1), none]) (st' := [.int a1, .ref 0]) (s' := s) rfl ?_
  refine wpc_callI (m' := 20) (me' := cm20) (as := [.int a1]) (r := []) rfl rfl rfl rfl rfl ⟨by decide, (by first | decide | exact Nat.le_of_ble_eq_true rfl), (by first | decide | exact Nat.le_of_ble_eq_true rfl), rfl⟩ (calI.mono h fun v694 s693 h695 => ?_)
  refine wpc_if (a := 11) (b := 8) rfl (by decide) rfl rfl (wpc_br (p := v694 = (0 : Int32)) ⟨fun hc696 => ?_, fun hc696 => ?_⟩)
  · have h697 := h695.1 hc696
    refine wpc_sl (n := 2) (c' := 16) (pc' := 13) (ls' := [some (.ref 0), some (.int a1), none]) (st' := [.int a1, .ref 0]) (s' := s693) rfl ?_
    refine wpc_callI (m' := 31) (me' := cm31) (as := [.int a1]) (r := []) rfl rfl rfl rfl rfl ⟨by decide, (by first | decide | exact Nat.le_of_ble_eq_true rfl), (by first | decide | exact Nat.le_of_ble_eq_true rfl), rfl⟩ (calI.mono h697 fun v700 s699 h701 => ?_)
    refine wpc_sl (n := 2) (c' := 16) (pc' := 18) (ls' := [some (.ref 0), some (.int a1), some (.int v700)]) (st' := [.int v700]) (s' := s699) rfl ?_
    refine wpc_if (a := 77) (b := 21) rfl (by decide) rfl rfl (wpc_br (p := v700 < (0 : Int32)) ⟨fun hc702 => ?_, fun hc702 => ?_⟩)
    · have h703 := h701.1 hc702
      exact wpc_lle (ls := [some (.ref 0), some (.int a1), none]) ⟨rfl, rfl, trivial⟩ h703
    · have h704 := h701.2 hc702
      refine wpc_sl (n := 3) (c' := 16) (pc' := 24) (ls' := [some (.ref 0), some (.int a1), some (.int v700)]) (st' := [.int v700, .int (-1 : Int32), .ref 0]) (s' := s699) rfl ?_
      refine wpc_callV (m' := 35) (me' := cm35) (as := [.int (-1 : Int32), .int v700]) (r := []) rfl rfl rfl rfl rfl ⟨by decide, (by first | decide | exact Nat.le_of_ble_eq_true rfl), (by first | decide | exact Nat.le_of_ble_eq_true rfl), rfl⟩ (calV.mono h704 fun s705 h707 => ?_)
      refine wpc_sl (n := 3) (c' := 16) (pc' := 32) (ls' := [some (.ref 0), some (.int a1), some (.int v700)]) (st' := [.int v700, .ref 6]) (s' := s705) rfl ?_
      refine wpc_ldaZ (a := 5) (N := 8) (v := (gI s705 6 (ix v700))) rfl rfl (by decide) h707.1 rfl ?_
      have h708 := h707.2
      refine wpc_if (a := 71) (b := 36) rfl (by decide) rfl rfl (wpc_br (p := (gI s705 6 (ix v700)) = (0 : Int32)) ⟨fun hc709 => ?_, fun hc709 => ?_⟩)
      · have h710 := h708.1 hc709
        exact h710
      · have h711 := h708.2 hc709
        refine wpc_sl (n := 3) (c' := 16) (pc' := 41) (ls' := [some (.ref 0), some (.int a1), some (.int v700)]) (st' := [.int v700, .ref 5]) (s' := s705) rfl ?_
        refine wpc_ldaZ (a := 4) (N := 8) (v := (gI s705 5 (ix v700))) rfl rfl (by decide) h711.1 rfl ?_
        have h712 := h711.2
        refine wpc_if (a := 71) (b := 45) rfl (by decide) rfl rfl (wpc_br (p := (gI s705 5 (ix v700)) = (0 : Int32)) ⟨fun hc713 => ?_, fun hc713 => ?_⟩)
        · have h714 := h712.1 hc713
          exact h714
        · have h715 := h712.2 hc713
          refine wpc_sl (n := 3) (c' := 16) (pc' := 50) (ls' := [some (.ref 0), some (.int a1), some (.int v700)]) (st' := [.int v700, .ref 7]) (s' := s705) rfl ?_
          refine wpc_ldaZ (a := 6) (N := 8) (v := (gI s705 7 (ix v700))) rfl rfl (by decide) h715.1 rfl ?_
          have h716 := h715.2
          refine wpc_if (a := 71) (b := 54) rfl (by decide) rfl rfl (wpc_br (p := (gI s705 7 (ix v700)) = (0 : Int32)) ⟨fun hc717 => ?_, fun hc717 => ?_⟩)
          · have h718 := h716.1 hc717
            refine wpc_sl (n := 4) (c' := 16) (pc' := 58) (ls' := [some (.ref 0), some (.int a1), some (.int v700)]) (st' := [.int (1 : Int32), .int a1, .int v700, .ref 0]) (s' := s705) rfl ?_
            refine wpc_callI (m' := 36) (me' := cm36) (as := [.int v700, .int a1, .int (1 : Int32)]) (r := []) rfl rfl rfl rfl rfl ⟨by decide, (by first | decide | exact Nat.le_of_ble_eq_true rfl), (by first | decide | exact Nat.le_of_ble_eq_true rfl), rfl⟩ (calI.mono h718 fun v721 s720 h722 => ?_)
            refine wpc_if (a := 71) (b := 64) rfl (by decide) rfl rfl (wpc_br (p := v721 = (0 : Int32)) ⟨fun hc723 => ?_, fun hc723 => ?_⟩)
            · have h724 := h722.1 hc723
              exact h724
            · have h725 := h722.2 hc723
              refine wpc_sl (n := 4) (c' := 16) (pc' := 70) (ls' := [some (.ref 0), some (.int a1), some (.int v700)]) (st' := [.int (1 : Int32), .int v700, .ref 7]) (s' := s720) rfl ?_
              refine wpc_staZ (a := 6) (N := 8) (s' := (sI s720 7 (ix v700) (1 : Int32))) rfl rfl (by decide) h725.1 rfl ?_
              have h726 := h725.2
              exact h726
          · have h719 := h716.2 hc717
            exact h719
  · have h698 := h695.2 hc696
    refine wpc_sl (n := 1) (c' := 16) (pc' := 10) (ls' := [some (.ref 0), some (.int a1), none]) (st' := [.int (-3 : Int32)]) (s' := s693) rfl ?_
    exact wpc_ret rfl rfl (fun q => absurd q (by decide)) rfl ⟨(-3 : Int32), rfl, h698⟩
theorem c10_77 (x1 : Int32) (s : St) (Q : Int32 → St → Prop) (h : inb 32 x1 ∧ Q (0 : Int32) (sI s 2 (ix x1) (1 : Int32))) : wpcI PP 10 cm10 16 77 [some (.ref 0), some (.int x1), none] [] s Q := by
  refine wpc_sl (n := 4) (c' := 16) (pc' := 83) (ls' := [some (.ref 0), some (.int x1), none]) (st' := [.int (1 : Int32), .int x1, .ref 2]) (s' := s) rfl ?_
  refine wpc_staZ (a := 1) (N := 32) (s' := (sI s 2 (ix x1) (1 : Int32))) rfl rfl (by decide) h.1 rfl ?_
  have h727 := h.2
  refine wpc_sl (n := 1) (c' := 16) (pc' := 85) (ls' := [some (.ref 0), some (.int x1), none]) (st' := [.int (0 : Int32)]) (s' := (sI s 2 (ix x1) (1 : Int32))) rfl ?_
  exact wpc_ret rfl rfl (fun q => absurd q (by decide)) rfl ⟨(0 : Int32), rfl, h727⟩
theorem c10_71 (x1 : Int32) (x2 : Int32) (s : St) (Q : Int32 → St → Prop) (h : calV PP 35 16 [.ref 0, .int (-1 : Int32), .int x2] s (fun s728 => wpcI PP 10 cm10 16 77 [some (.ref 0), some (.int x1), none] [] s728 Q)) : wpcI PP 10 cm10 16 71 [some (.ref 0), some (.int x1), some (.int x2)] [] s Q := by
  refine wpc_sl (n := 3) (c' := 16) (pc' := 74) (ls' := [some (.ref 0), some (.int x1), some (.int x2)]) (st' := [.int x2, .int (-1 : Int32), .ref 0]) (s' := s) rfl ?_
  refine wpc_callV (m' := 35) (me' := cm35) (as := [.int (-1 : Int32), .int x2]) (r := []) rfl rfl rfl rfl rfl ⟨by decide, (by first | decide | exact Nat.le_of_ble_eq_true rfl), (by first | decide | exact Nat.le_of_ble_eq_true rfl), rfl⟩ (calV.mono h fun s728 h730 => ?_)
  exact wpc_lle (ls := [some (.ref 0), some (.int x1), none]) ⟨rfl, rfl, trivial⟩ h730
theorem c37_in  (s : St) (Q : St → Prop) (h : wpcV PP 37 cm37 16 2 [some (.ref 0), some (.int (0 : Int32))] [] s Q) : calV PP 37 16 [.ref 0] s Q := by
  refine cal_of (me := cm37) (ls := [some (.ref 0), none]) rfl (Nat.le_of_ble_eq_true rfl) rfl ?_
  refine wpc_sl (n := 2) (c' := 16) (pc' := 2) (ls' := [some (.ref 0), some (.int (0 : Int32))]) (st' := []) (s' := s) rfl ?_
  exact h
theorem c37_2 (x1 : Int32) (s : St) (Q : St → Prop) (h : ((x1 < (64 : Int32)) → calI PP 40 16 [.ref 0] s (fun v768 s767 => ((v768 = (0 : Int32)) → Q s767) ∧ (¬ (v768 = (0 : Int32)) → wpcV PP 37 cm37 16 2 [some (.ref 0), some (.int (x1 + (1 : Int32)))] [] s767 Q))) ∧ (¬ (x1 < (64 : Int32)) → Q s)) : wpcV PP 37 cm37 16 2 [some (.ref 0), some (.int x1)] [] s Q := by
  refine wpc_sl (n := 2) (c' := 16) (pc' := 5) (ls' := [some (.ref 0), some (.int x1)]) (st' := [.int (64 : Int32), .int x1]) (s' := s) rfl ?_
  refine wpc_icmp (a := 24) (b := 8) rfl (by decide) rfl rfl (wpc_br (p := x1 < (64 : Int32)) ⟨fun hc764 => ?_, fun hc764 => ?_⟩)
  · have h765 := h.1 hc764
    refine wpc_sl (n := 1) (c' := 16) (pc' := 9) (ls' := [some (.ref 0), some (.int x1)]) (st' := [.ref 0]) (s' := s) rfl ?_
    refine wpc_callI (m' := 40) (me' := cm40) (as := []) (r := []) rfl rfl rfl rfl rfl ⟨by decide, (by first | decide | exact Nat.le_of_ble_eq_true rfl), (by first | decide | exact Nat.le_of_ble_eq_true rfl), rfl⟩ (calI.mono h765 fun v768 s767 h769 => ?_)
    refine wpc_if (a := 18) (b := 15) rfl (by decide) rfl rfl (wpc_br (p := v768 = (0 : Int32)) ⟨fun hc770 => ?_, fun hc770 => ?_⟩)
    · have h771 := h769.1 hc770
      refine wpc_sl (n := 1) (c' := 16) (pc' := 24) (ls' := [some (.ref 0), some (.int x1)]) (st' := []) (s' := s767) rfl ?_
      exact wpc_ret rfl rfl (fun q => absurd q (by decide)) rfl ⟨rfl, h771⟩
    · have h772 := h769.2 hc770
      refine wpc_sl (n := 2) (c' := 16) (pc' := 2) (ls' := [some (.ref 0), some (.int (x1 + (1 : Int32)))]) (st' := []) (s' := s767) rfl ?_
      exact h772
  · have h766 := h.2 hc764
    exact wpc_ret rfl rfl (fun q => absurd q (by decide)) rfl ⟨rfl, h766⟩
theorem c11_in  (s : St) (Q : St → Prop) (h : wpcV PP 11 cm11 16 2 [some (.ref 0), some (.int (0 : Int32)), none] [] s Q) : calV PP 11 16 [.ref 0] s Q := by
  refine cal_of (me := cm11) (ls := [some (.ref 0), none, none]) rfl (Nat.le_of_ble_eq_true rfl) rfl ?_
  refine wpc_sl (n := 2) (c' := 16) (pc' := 2) (ls' := [some (.ref 0), some (.int (0 : Int32)), none]) (st' := []) (s' := s) rfl ?_
  exact h
theorem c11_2 (x1 : Int32) (s : St) (Q : St → Prop) (h : ((x1 < (gI s 0 15)) → inb 8 x1 ∧ inb 8 x1 ∧ (((gI s 6 (ix x1)) = (0 : Int32)) → wpcV PP 11 cm11 16 65 [some (.ref 0), some (.int x1), none] [] s Q) ∧ (¬ ((gI s 6 (ix x1)) = (0 : Int32)) → inb 8 x1 ∧ (((gI s 5 (ix x1)) = (0 : Int32)) → wpcV PP 11 cm11 16 65 [some (.ref 0), some (.int x1), none] [] s Q) ∧ (¬ ((gI s 5 (ix x1)) = (0 : Int32)) → inb 8 x1 ∧ (((gI s 7 (ix x1)) = (0 : Int32)) → (((gI s 4 (ix x1)) < (0 : Int32)) → wpcV PP 11 cm11 16 65 [some (.ref 0), some (.int x1), none] [] s Q) ∧ (¬ ((gI s 4 (ix x1)) < (0 : Int32)) → calI PP 36 16 [.ref 0, .int x1, .int (gI s 4 (ix x1)), .int (1 : Int32)] s (fun v751 s750 => ((v751 = (0 : Int32)) → wpcV PP 11 cm11 16 65 [some (.ref 0), some (.int x1), none] [] s750 Q) ∧ (¬ (v751 = (0 : Int32)) → inb 8 x1 ∧ wpcV PP 11 cm11 16 65 [some (.ref 0), some (.int x1), none] [] (sI s750 7 (ix x1) (1 : Int32)) Q)))) ∧ (¬ ((gI s 7 (ix x1)) = (0 : Int32)) → wpcV PP 11 cm11 16 65 [some (.ref 0), some (.int x1), none] [] s Q)))) ∧ (¬ (x1 < (gI s 0 15)) → calV PP 37 16 [.ref 0] s (fun s757 => wpcV PP 11 cm11 16 77 [some (.ref 0), some (.int (0 : Int32)), none] [] s757 Q))) : wpcV PP 11 cm11 16 2 [some (.ref 0), some (.int x1), none] [] s Q := by
  refine wpc_sl (n := 3) (c' := 16) (pc' := 7) (ls' := [some (.ref 0), some (.int x1), none]) (st' := [.int (gI s 0 15), .int x1]) (s' := s) rfl ?_
  refine wpc_icmp (a := 71) (b := 10) rfl (by decide) rfl rfl (wpc_br (p := x1 < (gI s 0 15)) ⟨fun hc731 => ?_, fun hc731 => ?_⟩)
  · have h732 := h.1 hc731
    refine wpc_sl (n := 3) (c' := 16) (pc' := 15) (ls' := [some (.ref 0), some (.int x1), none]) (st' := [.int x1, .ref 4]) (s' := s) rfl ?_
    refine wpc_ldaI (a := 3) (N := 8) (v := (gI s 4 (ix x1))) rfl rfl (by decide) h732.1 rfl ?_
    have h734 := h732.2
    refine wpc_sl (n := 4) (c' := 16) (pc' := 22) (ls' := [some (.ref 0), some (.int x1), some (.int (gI s 4 (ix x1)))]) (st' := [.int x1, .ref 6]) (s' := s) rfl ?_
    refine wpc_ldaZ (a := 5) (N := 8) (v := (gI s 6 (ix x1))) rfl rfl (by decide) h734.1 rfl ?_
    have h735 := h734.2
    refine wpc_if (a := 65) (b := 26) rfl (by decide) rfl rfl (wpc_br (p := (gI s 6 (ix x1)) = (0 : Int32)) ⟨fun hc736 => ?_, fun hc736 => ?_⟩)
    · have h737 := h735.1 hc736
      exact wpc_lle (ls := [some (.ref 0), some (.int x1), none]) ⟨rfl, rfl, trivial⟩ h737
    · have h738 := h735.2 hc736
      refine wpc_sl (n := 3) (c' := 16) (pc' := 31) (ls' := [some (.ref 0), some (.int x1), some (.int (gI s 4 (ix x1)))]) (st' := [.int x1, .ref 5]) (s' := s) rfl ?_
      refine wpc_ldaZ (a := 4) (N := 8) (v := (gI s 5 (ix x1))) rfl rfl (by decide) h738.1 rfl ?_
      have h739 := h738.2
      refine wpc_if (a := 65) (b := 35) rfl (by decide) rfl rfl (wpc_br (p := (gI s 5 (ix x1)) = (0 : Int32)) ⟨fun hc740 => ?_, fun hc740 => ?_⟩)
      · have h741 := h739.1 hc740
        exact wpc_lle (ls := [some (.ref 0), some (.int x1), none]) ⟨rfl, rfl, trivial⟩ h741
      · have h742 := h739.2 hc740
        refine wpc_sl (n := 3) (c' := 16) (pc' := 40) (ls' := [some (.ref 0), some (.int x1), some (.int (gI s 4 (ix x1)))]) (st' := [.int x1, .ref 7]) (s' := s) rfl ?_
        refine wpc_ldaZ (a := 6) (N := 8) (v := (gI s 7 (ix x1))) rfl rfl (by decide) h742.1 rfl ?_
        have h743 := h742.2
        refine wpc_if (a := 65) (b := 44) rfl (by decide) rfl rfl (wpc_br (p := (gI s 7 (ix x1)) = (0 : Int32)) ⟨fun hc744 => ?_, fun hc744 => ?_⟩)
        · have h745 := h743.1 hc744
          refine wpc_sl (n := 1) (c' := 16) (pc' := 45) (ls' := [some (.ref 0), some (.int x1), some (.int (gI s 4 (ix x1)))]) (st' := [.int (gI s 4 (ix x1))]) (s' := s) rfl ?_
          refine wpc_if (a := 65) (b := 48) rfl (by decide) rfl rfl (wpc_br (p := (gI s 4 (ix x1)) < (0 : Int32)) ⟨fun hc747 => ?_, fun hc747 => ?_⟩)
          · have h748 := h745.1 hc747
            exact wpc_lle (ls := [some (.ref 0), some (.int x1), none]) ⟨rfl, rfl, trivial⟩ h748
          · have h749 := h745.2 hc747
            refine wpc_sl (n := 4) (c' := 16) (pc' := 52) (ls' := [some (.ref 0), some (.int x1), some (.int (gI s 4 (ix x1)))]) (st' := [.int (1 : Int32), .int (gI s 4 (ix x1)), .int x1, .ref 0]) (s' := s) rfl ?_
            refine wpc_callI (m' := 36) (me' := cm36) (as := [.int x1, .int (gI s 4 (ix x1)), .int (1 : Int32)]) (r := []) rfl rfl rfl rfl rfl ⟨by decide, (by first | decide | exact Nat.le_of_ble_eq_true rfl), (by first | decide | exact Nat.le_of_ble_eq_true rfl), rfl⟩ (calI.mono h749 fun v751 s750 h752 => ?_)
            refine wpc_if (a := 65) (b := 58) rfl (by decide) rfl rfl (wpc_br (p := v751 = (0 : Int32)) ⟨fun hc753 => ?_, fun hc753 => ?_⟩)
            · have h754 := h752.1 hc753
              exact wpc_lle (ls := [some (.ref 0), some (.int x1), none]) ⟨rfl, rfl, trivial⟩ h754
            · have h755 := h752.2 hc753
              refine wpc_sl (n := 4) (c' := 16) (pc' := 64) (ls' := [some (.ref 0), some (.int x1), some (.int (gI s 4 (ix x1)))]) (st' := [.int (1 : Int32), .int x1, .ref 7]) (s' := s750) rfl ?_
              refine wpc_staZ (a := 6) (N := 8) (s' := (sI s750 7 (ix x1) (1 : Int32))) rfl rfl (by decide) h755.1 rfl ?_
              have h756 := h755.2
              exact wpc_lle (ls := [some (.ref 0), some (.int x1), none]) ⟨rfl, rfl, trivial⟩ h756
        · have h746 := h743.2 hc744
          exact wpc_lle (ls := [some (.ref 0), some (.int x1), none]) ⟨rfl, rfl, trivial⟩ h746
  · have h733 := h.2 hc731
    refine wpc_sl (n := 1) (c' := 16) (pc' := 72) (ls' := [some (.ref 0), some (.int x1), none]) (st' := [.ref 0]) (s' := s) rfl ?_
    refine wpc_callV (m' := 37) (me' := cm37) (as := []) (r := []) rfl rfl rfl rfl rfl ⟨by decide, (by first | decide | exact Nat.le_of_ble_eq_true rfl), (by first | decide | exact Nat.le_of_ble_eq_true rfl), rfl⟩ (calV.mono h733 fun s757 h759 => ?_)
    refine wpc_sl (n := 2) (c' := 16) (pc' := 77) (ls' := [some (.ref 0), some (.int (0 : Int32)), none]) (st' := []) (s' := s757) rfl ?_
    exact h759
theorem c11_65 (x1 : Int32) (s : St) (Q : St → Prop) (h : wpcV PP 11 cm11 16 2 [some (.ref 0), some (.int (x1 + (1 : Int32))), none] [] s Q) : wpcV PP 11 cm11 16 65 [some (.ref 0), some (.int x1), none] [] s Q := by
  refine wpc_sl (n := 2) (c' := 16) (pc' := 2) (ls' := [some (.ref 0), some (.int (x1 + (1 : Int32))), none]) (st' := []) (s' := s) rfl ?_
  exact h
theorem c11_77 (x1 : Int32) (s : St) (Q : St → Prop) (h : ((x1 < (32 : Int32)) → inb 32 x1 ∧ wpcV PP 11 cm11 16 77 [some (.ref 0), some (.int (x1 + (1 : Int32))), none] [] (sI s 2 (ix x1) (1 : Int32)) Q) ∧ (¬ (x1 < (32 : Int32)) → Q s)) : wpcV PP 11 cm11 16 77 [some (.ref 0), some (.int x1), none] [] s Q := by
  refine wpc_sl (n := 2) (c' := 16) (pc' := 80) (ls' := [some (.ref 0), some (.int x1), none]) (st' := [.int (32 : Int32), .int x1]) (s' := s) rfl ?_
  refine wpc_icmp (a := 96) (b := 83) rfl (by decide) rfl rfl (wpc_br (p := x1 < (32 : Int32)) ⟨fun hc760 => ?_, fun hc760 => ?_⟩)
  · have h761 := h.1 hc760
    refine wpc_sl (n := 4) (c' := 16) (pc' := 89) (ls' := [some (.ref 0), some (.int x1), none]) (st' := [.int (1 : Int32), .int x1, .ref 2]) (s' := s) rfl ?_
    refine wpc_staZ (a := 1) (N := 32) (s' := (sI s 2 (ix x1) (1 : Int32))) rfl rfl (by decide) h761.1 rfl ?_
    have h763 := h761.2
    refine wpc_sl (n := 2) (c' := 16) (pc' := 77) (ls' := [some (.ref 0), some (.int (x1 + (1 : Int32))), none]) (st' := []) (s' := (sI s 2 (ix x1) (1 : Int32))) rfl ?_
    exact h763
  · have h762 := h.2 hc760
    exact wpc_ret rfl rfl (fun q => absurd q (by decide)) rfl ⟨rfl, h762⟩
theorem c26_in (a1 : Int32) (a2 : Int32) (s : St) (Q : Int32 → St → Prop) (h : calI PP 31 16 [.ref 0, .int a1] s (fun v845 s844 => ((v845 < (0 : Int32)) → wpcI PP 26 cm26 16 30 [some (.ref 0), some (.int a1), some (.int a2), none] [] s844 Q) ∧ (¬ (v845 < (0 : Int32)) → inb 8 v845 ∧ (((gI s844 5 (ix v845)) = (0 : Int32)) → wpcI PP 26 cm26 16 30 [some (.ref 0), some (.int a1), some (.int a2), none] [] s844 Q) ∧ (¬ ((gI s844 5 (ix v845)) = (0 : Int32)) → inb 32 ((v845 * (4 : Int32)) + a2) ∧ Q (gI s844 3 (ix ((v845 * (4 : Int32)) + a2))) s844)))) : calI PP 26 16 [.ref 0, .int a1, .int a2] s Q := by
  refine cal_of (me := cm26) (ls := [some (.ref 0), some (.int a1), some (.int a2), none]) rfl (Nat.le_of_ble_eq_true rfl) rfl ?_
  refine wpc_sl (n := 2) (c' := 16) (pc' := 2) (ls' := [some (.ref 0), some (.int a1), some (.int a2), none]) (st' := [.int a1, .ref 0]) (s' := s) rfl ?_
  refine wpc_callI (m' := 31) (me' := cm31) (as := [.int a1]) (r := []) rfl rfl rfl rfl rfl ⟨by decide, (by first | decide | exact Nat.le_of_ble_eq_true rfl), (by first | decide | exact Nat.le_of_ble_eq_true rfl), rfl⟩ (calI.mono h fun v845 s844 h846 => ?_)
  refine wpc_sl (n := 2) (c' := 16) (pc' := 7) (ls' := [some (.ref 0), some (.int a1), some (.int a2), some (.int v845)]) (st' := [.int v845]) (s' := s844) rfl ?_
  refine wpc_if (a := 30) (b := 10) rfl (by decide) rfl rfl (wpc_br (p := v845 < (0 : Int32)) ⟨fun hc847 => ?_, fun hc847 => ?_⟩)
  · have h848 := h846.1 hc847
    exact wpc_lle (ls := [some (.ref 0), some (.int a1), some (.int a2), none]) ⟨rfl, rfl, rfl, trivial⟩ h848
  · have h849 := h846.2 hc847
    refine wpc_sl (n := 3) (c' := 16) (pc' := 15) (ls' := [some (.ref 0), some (.int a1), some (.int a2), some (.int v845)]) (st' := [.int v845, .ref 5]) (s' := s844) rfl ?_
    refine wpc_ldaZ (a := 4) (N := 8) (v := (gI s844 5 (ix v845))) rfl rfl (by decide) h849.1 rfl ?_
    have h850 := h849.2
    refine wpc_if (a := 30) (b := 19) rfl (by decide) rfl rfl (wpc_br (p := (gI s844 5 (ix v845)) = (0 : Int32)) ⟨fun hc851 => ?_, fun hc851 => ?_⟩)
    · have h852 := h850.1 hc851
      exact wpc_lle (ls := [some (.ref 0), some (.int a1), some (.int a2), none]) ⟨rfl, rfl, rfl, trivial⟩ h852
    · have h853 := h850.2 hc851
      refine wpc_sl (n := 7) (c' := 16) (pc' := 28) (ls' := [some (.ref 0), some (.int a1), some (.int a2), some (.int v845)]) (st' := [.int ((v845 * (4 : Int32)) + a2), .ref 3]) (s' := s844) rfl ?_
      refine wpc_ldaI (a := 2) (N := 32) (v := (gI s844 3 (ix ((v845 * (4 : Int32)) + a2)))) rfl rfl (by decide) h853.1 rfl ?_
      have h854 := h853.2
      exact wpc_ret rfl rfl (fun q => absurd q (by decide)) rfl ⟨(gI s844 3 (ix ((v845 * (4 : Int32)) + a2))), rfl, h854⟩
theorem c26_30 (x1 : Int32) (x2 : Int32) (s : St) (Q : Int32 → St → Prop) (h : inb 128 ((x1 * (4 : Int32)) + x2) ∧ Q (gI s 1 (ix ((x1 * (4 : Int32)) + x2))) s) : wpcI PP 26 cm26 16 30 [some (.ref 0), some (.int x1), some (.int x2), none] [] s Q := by
  refine wpc_sl (n := 7) (c' := 16) (pc' := 39) (ls' := [some (.ref 0), some (.int x1), some (.int x2), none]) (st' := [.int ((x1 * (4 : Int32)) + x2), .ref 1]) (s' := s) rfl ?_
  refine wpc_ldaI (a := 0) (N := 128) (v := (gI s 1 (ix ((x1 * (4 : Int32)) + x2)))) rfl rfl (by decide) h.1 rfl ?_
  have h855 := h.2
  exact wpc_ret rfl rfl (fun q => absurd q (by decide)) rfl ⟨(gI s 1 (ix ((x1 * (4 : Int32)) + x2))), rfl, h855⟩
theorem c14_in (a1 : Int32) (s : St) (Q : Int32 → St → Prop) (h : calI PP 20 16 [.ref 0, .int a1] s (fun v833 s832 => ((v833 = (0 : Int32)) → wpcI PP 14 cm14 16 15 [some (.ref 0), some (.int a1), some (.int (0 : Int32)), some (.int (0 : Int32))] [] s832 Q) ∧ (¬ (v833 = (0 : Int32)) → Q (-3 : Int32) s832))) : calI PP 14 16 [.ref 0, .int a1] s Q := by
  refine cal_of (me := cm14) (ls := [some (.ref 0), some (.int a1), none, none]) rfl (Nat.le_of_ble_eq_true rfl) rfl ?_
  refine wpc_sl (n := 2) (c' := 16) (pc' := 2) (ls' := [some (.ref 0), some (.int a1), none, none]) (st' := [.int a1, .ref 0]) (s' := s) rfl ?_
  refine wpc_callI (m' := 20) (me' := cm20) (as := [.int a1]) (r := []) rfl rfl rfl rfl rfl ⟨by decide, (by first | decide | exact Nat.le_of_ble_eq_true rfl), (by first | decide | exact Nat.le_of_ble_eq_true rfl), rfl⟩ (calI.mono h fun v833 s832 h834 => ?_)
  refine wpc_if (a := 11) (b := 8) rfl (by decide) rfl rfl (wpc_br (p := v833 = (0 : Int32)) ⟨fun hc835 => ?_, fun hc835 => ?_⟩)
  · have h836 := h834.1 hc835
    refine wpc_sl (n := 4) (c' := 16) (pc' := 15) (ls' := [some (.ref 0), some (.int a1), some (.int (0 : Int32)), some (.int (0 : Int32))]) (st' := []) (s' := s832) rfl ?_
    exact h836
  · have h837 := h834.2 hc835
    refine wpc_sl (n := 1) (c' := 16) (pc' := 10) (ls' := [some (.ref 0), some (.int a1), none, none]) (st' := [.int (-3 : Int32)]) (s' := s832) rfl ?_
    exact wpc_ret rfl rfl (fun q => absurd q (by decide)) rfl ⟨(-3 : Int32), rfl, h837⟩
theorem c14_15 (x1 : Int32) (x2 : Int32) (x3 : Int32) (s : St) (Q : Int32 → St → Prop) (h : ((x3 < (4 : Int32)) → calI PP 26 16 [.ref 0, .int x1, .int x3] s (fun v842 s841 => wpcI PP 14 cm14 16 15 [some (.ref 0), some (.int x1), some (.int (x2 + v842)), some (.int (x3 + (1 : Int32)))] [] s841 Q)) ∧ (¬ (x3 < (4 : Int32)) → Q x2 s)) : wpcI PP 14 cm14 16 15 [some (.ref 0), some (.int x1), some (.int x2), some (.int x3)] [] s Q := by
  refine wpc_sl (n := 2) (c' := 16) (pc' := 17) (ls' := [some (.ref 0), some (.int x1), some (.int x2), some (.int x3)]) (st' := [.int (4 : Int32), .int x3]) (s' := s) rfl ?_
  refine wpc_icmp (a := 35) (b := 20) rfl (by decide) rfl rfl (wpc_br (p := x3 < (4 : Int32)) ⟨fun hc838 => ?_, fun hc838 => ?_⟩)
  · have h839 := h.1 hc838
    refine wpc_sl (n := 4) (c' := 16) (pc' := 24) (ls' := [some (.ref 0), some (.int x1), some (.int x2), some (.int x3)]) (st' := [.int x3, .int x1, .ref 0, .int x2]) (s' := s) rfl ?_
    refine wpc_callI (m' := 26) (me' := cm26) (as := [.int x1, .int x3]) (r := [.int x2]) rfl rfl rfl rfl rfl ⟨by decide, (by first | decide | exact Nat.le_of_ble_eq_true rfl), (by first | decide | exact Nat.le_of_ble_eq_true rfl), rfl⟩ (calI.mono h839 fun v842 s841 h843 => ?_)
    refine wpc_sl (n := 4) (c' := 16) (pc' := 15) (ls' := [some (.ref 0), some (.int x1), some (.int (x2 + v842)), some (.int (x3 + (1 : Int32)))]) (st' := []) (s' := s841) rfl ?_
    exact h843
  · have h840 := h.2 hc838
    refine wpc_sl (n := 1) (c' := 16) (pc' := 36) (ls' := [some (.ref 0), some (.int x1), some (.int x2), some (.int x3)]) (st' := [.int x2]) (s' := s) rfl ?_
    exact wpc_ret rfl rfl (fun q => absurd q (by decide)) rfl ⟨x2, rfl, h840⟩
theorem c13_in  (s : St) (Q : Int32 → St → Prop) (h : wpcI PP 13 cm13 16 4 [some (.ref 0), some (.int (0 : Int32)), some (.int (0 : Int32))] [] s Q) : calI PP 13 16 [.ref 0] s Q := by
  refine cal_of (me := cm13) (ls := [some (.ref 0), none, none]) rfl (Nat.le_of_ble_eq_true rfl) rfl ?_
  refine wpc_sl (n := 4) (c' := 16) (pc' := 4) (ls' := [some (.ref 0), some (.int (0 : Int32)), some (.int (0 : Int32))]) (st' := []) (s' := s) rfl ?_
  exact h
theorem c13_4 (x1 : Int32) (x2 : Int32) (s : St) (Q : Int32 → St → Prop) (h : ((x2 < (gI s 0 14)) → inb 32 x2 ∧ ∀ m860, m860 = (if (gI s 2 (ix x2)) = (0 : Int32) then (x1 + (1 : Int32)) else x1) → (wpcI PP 13 cm13 16 4 [some (.ref 0), some (.int m860), some (.int (x2 + (1 : Int32)))] [] s Q)) ∧ (¬ (x2 < (gI s 0 14)) → Q x1 s)) : wpcI PP 13 cm13 16 4 [some (.ref 0), some (.int x1), some (.int x2)] [] s Q := by
  refine wpc_sl (n := 3) (c' := 16) (pc' := 9) (ls' := [some (.ref 0), some (.int x1), some (.int x2)]) (st' := [.int (gI s 0 14), .int x2]) (s' := s) rfl ?_
  refine wpc_icmp (a := 30) (b := 12) rfl (by decide) rfl rfl (wpc_br (p := x2 < (gI s 0 14)) ⟨fun hc856 => ?_, fun hc856 => ?_⟩)
  · have h857 := h.1 hc856
    refine wpc_sl (n := 3) (c' := 16) (pc' := 17) (ls' := [some (.ref 0), some (.int x1), some (.int x2)]) (st' := [.int x2, .ref 2]) (s' := s) rfl ?_
    refine wpc_ldaZ (a := 1) (N := 32) (v := (gI s 2 (ix x2))) rfl rfl (by decide) h857.1 rfl ?_
    have h859 := h857.2
    have hm861 : ∀ m860, m860 = (if (gI s 2 (ix x2)) = (0 : Int32) then (x1 + (1 : Int32)) else x1) → wpcI PP 13 cm13 16 24 [some (.ref 0), some (.int m860), some (.int x2)] [] s Q := by
      intro m860 em860
      have h862 := h859 m860 em860
      refine wpc_sl (n := 2) (c' := 16) (pc' := 4) (ls' := [some (.ref 0), some (.int m860), some (.int (x2 + (1 : Int32)))]) (st' := []) (s' := s) rfl ?_
      exact h862
    refine wpc_if (a := 24) (b := 21) rfl (by decide) rfl rfl (wpc_br (p := (gI s 2 (ix x2)) = (0 : Int32)) ⟨fun hc863 => ?_, fun hc863 => ?_⟩)
    · refine wpc_sl (n := 1) (c' := 16) (pc' := 24) (ls' := [some (.ref 0), some (.int (x1 + (1 : Int32))), some (.int x2)]) (st' := []) (s' := s) rfl ?_
      first | exact hm861 _ (by simp only [if_pos hc863]) | exact wpc_lle (by repeat (first | exact trivial | refine ⟨rfl, ?_⟩)) (hm861 _ (by simp only [if_pos hc863]))
    · first | exact hm861 _ (by simp only [if_neg hc863]) | exact wpc_lle (by repeat (first | exact trivial | refine ⟨rfl, ?_⟩)) (hm861 _ (by simp only [if_neg hc863]))
  · have h858 := h.2 hc856
    refine wpc_sl (n := 1) (c' := 16) (pc' := 31) (ls' := [some (.ref 0), some (.int x1), some (.int x2)]) (st' := [.int x1]) (s' := s) rfl ?_
    exact wpc_ret rfl rfl (fun q => absurd q (by decide)) rfl ⟨x1, rfl, h858⟩
theorem c12_in (a1 : Int32) (a2 : Int32) (s : St) (Q : Int32 → St → Prop) (h : calI PP 20 16 [.ref 0, .int a1] s (fun v865 s864 => ((v865 = (0 : Int32)) → calI PP 21 16 [.ref 0, .int a2] s864 (fun v871 s870 => ((v871 = (0 : Int32)) → inb 32 a1 ∧ (((gI s870 2 (ix a1)) = (0 : Int32)) → Q (-1 : Int32) s870) ∧ (¬ ((gI s870 2 (ix a1)) = (0 : Int32)) → inb 128 ((a1 * (4 : Int32)) + a2) ∧ Q (gI s870 1 (ix ((a1 * (4 : Int32)) + a2))) s870)) ∧ (¬ (v871 = (0 : Int32)) → Q (-4 : Int32) s870))) ∧ (¬ (v865 = (0 : Int32)) → Q (-3 : Int32) s864))) : calI PP 12 16 [.ref 0, .int a1, .int a2] s Q := by
  refine cal_of (me := cm12) (ls := [some (.ref 0), some (.int a1), some (.int a2)]) rfl (Nat.le_of_ble_eq_true rfl) rfl ?_
  refine wpc_sl (n := 2) (c' := 16) (pc' := 2) (ls' := [some (.ref 0), some (.int a1), some (.int a2)]) (st' := [.int a1, .ref 0]) (s' := s) rfl ?_
  refine wpc_callI (m' := 20) (me' := cm20) (as := [.int a1]) (r := []) rfl rfl rfl rfl rfl ⟨by decide, (by first | decide | exact Nat.le_of_ble_eq_true rfl), (by first | decide | exact Nat.le_of_ble_eq_true rfl), rfl⟩ (calI.mono h fun v865 s864 h866 => ?_)
  refine wpc_if (a := 11) (b := 8) rfl (by decide) rfl rfl (wpc_br (p := v865 = (0 : Int32)) ⟨fun hc867 => ?_, fun hc867 => ?_⟩)
  · have h868 := h866.1 hc867
    refine wpc_sl (n := 2) (c' := 16) (pc' := 13) (ls' := [some (.ref 0), some (.int a1), some (.int a2)]) (st' := [.int a2, .ref 0]) (s' := s864) rfl ?_
    refine wpc_callI (m' := 21) (me' := cm21) (as := [.int a2]) (r := []) rfl rfl rfl rfl rfl ⟨by decide, (by first | decide | exact Nat.le_of_ble_eq_true rfl), (by first | decide | exact Nat.le_of_ble_eq_true rfl), rfl⟩ (calI.mono h868 fun v871 s870 h872 => ?_)
    refine wpc_if (a := 22) (b := 19) rfl (by decide) rfl rfl (wpc_br (p := v871 = (0 : Int32)) ⟨fun hc873 => ?_, fun hc873 => ?_⟩)
    · have h874 := h872.1 hc873
      refine wpc_sl (n := 3) (c' := 16) (pc' := 27) (ls' := [some (.ref 0), some (.int a1), some (.int a2)]) (st' := [.int a1, .ref 2]) (s' := s870) rfl ?_
      refine wpc_ldaZ (a := 1) (N := 32) (v := (gI s870 2 (ix a1))) rfl rfl (by decide) h874.1 rfl ?_
      have h876 := h874.2
      refine wpc_if (a := 33) (b := 31) rfl (by decide) rfl rfl (wpc_br (p := (gI s870 2 (ix a1)) = (0 : Int32)) ⟨fun hc877 => ?_, fun hc877 => ?_⟩)
      · have h878 := h876.1 hc877
        refine wpc_sl (n := 1) (c' := 16) (pc' := 32) (ls' := [some (.ref 0), some (.int a1), some (.int a2)]) (st' := [.int (-1 : Int32)]) (s' := s870) rfl ?_
        exact wpc_ret rfl rfl (fun q => absurd q (by decide)) rfl ⟨(-1 : Int32), rfl, h878⟩
      · have h879 := h876.2 hc877
        refine wpc_sl (n := 7) (c' := 16) (pc' := 42) (ls' := [some (.ref 0), some (.int a1), some (.int a2)]) (st' := [.int ((a1 * (4 : Int32)) + a2), .ref 1]) (s' := s870) rfl ?_
        refine wpc_ldaI (a := 0) (N := 128) (v := (gI s870 1 (ix ((a1 * (4 : Int32)) + a2)))) rfl rfl (by decide) h879.1 rfl ?_
        have h880 := h879.2
        exact wpc_ret rfl rfl (fun q => absurd q (by decide)) rfl ⟨(gI s870 1 (ix ((a1 * (4 : Int32)) + a2))), rfl, h880⟩
    · have h875 := h872.2 hc873
      refine wpc_sl (n := 1) (c' := 16) (pc' := 21) (ls' := [some (.ref 0), some (.int a1), some (.int a2)]) (st' := [.int (-4 : Int32)]) (s' := s870) rfl ?_
      exact wpc_ret rfl rfl (fun q => absurd q (by decide)) rfl ⟨(-4 : Int32), rfl, h875⟩
  · have h869 := h866.2 hc867
    refine wpc_sl (n := 1) (c' := 16) (pc' := 10) (ls' := [some (.ref 0), some (.int a1), some (.int a2)]) (st' := [.int (-3 : Int32)]) (s' := s864) rfl ?_
    exact wpc_ret rfl rfl (fun q => absurd q (by decide)) rfl ⟨(-3 : Int32), rfl, h869⟩
theorem l5r1W1_in (N : Nat) (sg : Nat → Int32) (a1 : Int64) (a2 : Int64) (a3 : Int64) (a4 : Int64) (a5 : Int32) (s : St) (Q : Int32 → Wd → Prop) (h : wplI PP QQ (some (N, sg)) 5 lm5 6 [some (.ref 1), some (.long a1), none, some (.long a2), none, some (.long a3), none, some (.long a4), none, some (.int a5), some (.int (0 : Int32)), some (.int (0 : Int32)), none, none, none, none, none] [] (W1 s) Q) : lalI PP QQ (some (N, sg)) 5 [.ref 1, .long a1, .long a2, .long a3, .long a4, .int a5] (W1 s) Q := by
  refine lal_of (me := lm5) (ls := [some (.ref 1), some (.long a1), none, some (.long a2), none, some (.long a3), none, some (.long a4), none, some (.int a5), none, none, none, none, none, none, none]) rfl (Nat.le_of_ble_eq_true rfl) rfl ?_
  refine wpl_sl (n := 4) (pc' := 6) (ls' := [some (.ref 1), some (.long a1), none, some (.long a2), none, some (.long a3), none, some (.long a4), none, some (.int a5), some (.int (0 : Int32)), some (.int (0 : Int32)), none, none, none, none, none]) (st' := []) rfl ?_
  exact h
theorem l5r1W1_6 (N : Nat) (sg : Nat → Int32) (x1 : Int64) (x3 : Int64) (x5 : Int64) (x7 : Int64) (x9 : Int32) (x10 : Int32) (x11 : Int32) (s : St) (Q : Int32 → Wd → Prop) (h : ((x11 < (4 : Int32)) → lalL PP QQ (some (N, sg)) 4 [.long x1, .long x3, .long x5, .long x7, .int x11] (W1 s) (fun v777 w776 => ∃ s779, w776 = W1 s779 ∧ (∀ m780, m780 = (if ((x9 >>> (x11 &&& 31)) &&& (1 : Int32)) = (1 : Int32) then (1 : Int32) else (0 : Int32)) → (∀ m783, m783 = (if m780 = (0 : Int32) then x10 else (x10 + (1 : Int32))) → (calI PP 14 16 [.ref 0, .int x11] s779 (fun v787 s786 => lalI PP QQ (some (N, sg)) 2 [.long v777, .int (0 : Int32)] (W1 s786) (fun v790 w789 => ∃ s792, w789 = W1 s792 ∧ (lalI PP QQ (some (N, sg)) 2 [.long v777, .int (1 : Int32)] (W1 s792) (fun v794 w793 => ∃ s796, w793 = W1 s796 ∧ (lalI PP QQ (some (N, sg)) 2 [.long v777, .int (2 : Int32)] (W1 s796) (fun v798 w797 => ∃ s800, w797 = W1 s800 ∧ (lalI PP QQ (some (N, sg)) 2 [.long v777, .int (3 : Int32)] (W1 s800) (fun v802 w801 => ∃ s804, w801 = W1 s804 ∧ (((v787 = (((v790 + v794) + v798) + v802)) → wplI PP QQ (some (N, sg)) 5 lm5 92 [some (.ref 1), some (.long x1), none, some (.long x3), none, some (.long x5), none, some (.long x7), none, some (.int x9), some (.int m783), some (.int x11), some (.long v777), none, some (.int m780), some (.int (0 : Int32)), none] [] (W1 s804) Q) ∧ (¬ (v787 = (((v790 + v794) + v798) + v802)) → Q (0 : Int32) (W1 s804)))))))))))))))) ∧ (¬ (x11 < (4 : Int32)) → calI PP 13 16 [.ref 0] s (fun v811 s810 => ((v811 = x10) → Q (1 : Int32) (W1 s810)) ∧ (¬ (v811 = x10) → Q (0 : Int32) (W1 s810))))) : wplI PP QQ (some (N, sg)) 5 lm5 6 [some (.ref 1), some (.long x1), none, some (.long x3), none, some (.long x5), none, some (.long x7), none, some (.int x9), some (.int x10), some (.int x11), none, none, none, none, none] [] (W1 s) Q := by
  refine wpl_sl (n := 2) (pc' := 9) (ls' := [some (.ref 1), some (.long x1), none, some (.long x3), none, some (.long x5), none, some (.long x7), none, some (.int x9), some (.int x10), some (.int x11), none, none, none, none, none]) (st' := [.int (4 : Int32), .int x11]) rfl ?_
  refine wpl_icmp (a := 143) (b := 12) rfl (by decide) rfl rfl (wpl_br (p := x11 < (4 : Int32)) ⟨fun hc773 => ?_, fun hc773 => ?_⟩)
  · have h774 := h.1 hc773
    refine wpl_sl (n := 5) (pc' := 20) (ls' := [some (.ref 1), some (.long x1), none, some (.long x3), none, some (.long x5), none, some (.long x7), none, some (.int x9), some (.int x10), some (.int x11), none, none, none, none, none]) (st' := [.int x11, .long x7, .long x5, .long x3, .long x1]) rfl ?_
    refine wpl_stat (m' := 4) (me' := lm4) (as := [.long x1, .long x3, .long x5, .long x7, .int x11]) (r := []) rfl rfl rfl rfl rfl ⟨(by first | decide | exact Nat.le_of_ble_eq_true rfl), (by first | decide | exact Nat.le_of_ble_eq_true rfl), (by first | decide | exact Nat.le_of_ble_eq_true rfl), (by first | decide | exact Nat.le_of_ble_eq_true rfl), rfl⟩ (lal_L (lalL.mono h774 fun v777 w776 hh => ?_))
    obtain ⟨s779, rfl, h778⟩ := hh
    refine wpl_sl (n := 7) (pc' := 33) (ls' := [some (.ref 1), some (.long x1), none, some (.long x3), none, some (.long x5), none, some (.long x7), none, some (.int x9), some (.int x10), some (.int x11), some (.long v777), none, none, none, none]) (st' := [.int (1 : Int32), .int ((x9 >>> (x11 &&& 31)) &&& (1 : Int32))]) rfl ?_
    have hm781 : ∀ m780, m780 = (if ((x9 >>> (x11 &&& 31)) &&& (1 : Int32)) = (1 : Int32) then (1 : Int32) else (0 : Int32)) → wplI PP QQ (some (N, sg)) 5 lm5 41 [some (.ref 1), some (.long x1), none, some (.long x3), none, some (.long x5), none, some (.long x7), none, some (.int x9), some (.int x10), some (.int x11), some (.long v777), none, none, none, none] [.int m780] (W1 s779) Q := by
      intro m780 em780
      have h782 := h778 m780 em780
      refine wpl_sl (n := 2) (pc' := 45) (ls' := [some (.ref 1), some (.long x1), none, some (.long x3), none, some (.long x5), none, some (.long x7), none, some (.int x9), some (.int x10), some (.int x11), some (.long v777), none, some (.int m780), none, none]) (st' := [.int m780]) rfl ?_
      have hm784 : ∀ m783, m783 = (if m780 = (0 : Int32) then x10 else (x10 + (1 : Int32))) → wplI PP QQ (some (N, sg)) 5 lm5 51 [some (.ref 1), some (.long x1), none, some (.long x3), none, some (.long x5), none, some (.long x7), none, some (.int x9), some (.int m783), some (.int x11), some (.long v777), none, some (.int m780), none, none] [] (W1 s779) Q := by
        intro m783 em783
        have h785 := h782 m783 em783
        refine wpl_sl (n := 2) (pc' := 54) (ls' := [some (.ref 1), some (.long x1), none, some (.long x3), none, some (.long x5), none, some (.long x7), none, some (.int x9), some (.int m783), some (.int x11), some (.long v777), none, some (.int m780), none, none]) (st' := [.int x11, .ref 1]) rfl ?_
        refine wpl_v1 (m' := 14) (me' := cm14) (as := [.int x11]) (r := []) rfl rfl rfl rfl rfl ⟨by decide, (by first | decide | exact Nat.le_of_ble_eq_true rfl), (by first | decide | exact Nat.le_of_ble_eq_true rfl), rfl⟩ (cal_I (calI.mono h785 fun v787 s786 h788 => ?_))
        refine wpl_sl (n := 2) (pc' := 60) (ls' := [some (.ref 1), some (.long x1), none, some (.long x3), none, some (.long x5), none, some (.long x7), none, some (.int x9), some (.int m783), some (.int x11), some (.long v777), none, some (.int m780), none, none]) (st' := [.int (0 : Int32), .long v777, .int v787]) rfl ?_
        refine wpl_stat (m' := 2) (me' := lm2) (as := [.long v777, .int (0 : Int32)]) (r := [.int v787]) rfl rfl rfl rfl rfl ⟨(by first | decide | exact Nat.le_of_ble_eq_true rfl), (by first | decide | exact Nat.le_of_ble_eq_true rfl), (by first | decide | exact Nat.le_of_ble_eq_true rfl), (by first | decide | exact Nat.le_of_ble_eq_true rfl), rfl⟩ (lal_I (lalI.mono h788 fun v790 w789 hh => ?_))
        obtain ⟨s792, rfl, h791⟩ := hh
        refine wpl_sl (n := 2) (pc' := 66) (ls' := [some (.ref 1), some (.long x1), none, some (.long x3), none, some (.long x5), none, some (.long x7), none, some (.int x9), some (.int m783), some (.int x11), some (.long v777), none, some (.int m780), none, none]) (st' := [.int (1 : Int32), .long v777, .int v790, .int v787]) rfl ?_
        refine wpl_stat (m' := 2) (me' := lm2) (as := [.long v777, .int (1 : Int32)]) (r := [.int v790, .int v787]) rfl rfl rfl rfl rfl ⟨(by first | decide | exact Nat.le_of_ble_eq_true rfl), (by first | decide | exact Nat.le_of_ble_eq_true rfl), (by first | decide | exact Nat.le_of_ble_eq_true rfl), (by first | decide | exact Nat.le_of_ble_eq_true rfl), rfl⟩ (lal_I (lalI.mono h791 fun v794 w793 hh => ?_))
        obtain ⟨s796, rfl, h795⟩ := hh
        refine wpl_sl (n := 3) (pc' := 73) (ls' := [some (.ref 1), some (.long x1), none, some (.long x3), none, some (.long x5), none, some (.long x7), none, some (.int x9), some (.int m783), some (.int x11), some (.long v777), none, some (.int m780), none, none]) (st' := [.int (2 : Int32), .long v777, .int (v790 + v794), .int v787]) rfl ?_
        refine wpl_stat (m' := 2) (me' := lm2) (as := [.long v777, .int (2 : Int32)]) (r := [.int (v790 + v794), .int v787]) rfl rfl rfl rfl rfl ⟨(by first | decide | exact Nat.le_of_ble_eq_true rfl), (by first | decide | exact Nat.le_of_ble_eq_true rfl), (by first | decide | exact Nat.le_of_ble_eq_true rfl), (by first | decide | exact Nat.le_of_ble_eq_true rfl), rfl⟩ (lal_I (lalI.mono h795 fun v798 w797 hh => ?_))
        obtain ⟨s800, rfl, h799⟩ := hh
        refine wpl_sl (n := 3) (pc' := 80) (ls' := [some (.ref 1), some (.long x1), none, some (.long x3), none, some (.long x5), none, some (.long x7), none, some (.int x9), some (.int m783), some (.int x11), some (.long v777), none, some (.int m780), none, none]) (st' := [.int (3 : Int32), .long v777, .int ((v790 + v794) + v798), .int v787]) rfl ?_
        refine wpl_stat (m' := 2) (me' := lm2) (as := [.long v777, .int (3 : Int32)]) (r := [.int ((v790 + v794) + v798), .int v787]) rfl rfl rfl rfl rfl ⟨(by first | decide | exact Nat.le_of_ble_eq_true rfl), (by first | decide | exact Nat.le_of_ble_eq_true rfl), (by first | decide | exact Nat.le_of_ble_eq_true rfl), (by first | decide | exact Nat.le_of_ble_eq_true rfl), rfl⟩ (lal_I (lalI.mono h799 fun v802 w801 hh => ?_))
        obtain ⟨s804, rfl, h803⟩ := hh
        refine wpl_sl (n := 1) (pc' := 84) (ls' := [some (.ref 1), some (.long x1), none, some (.long x3), none, some (.long x5), none, some (.long x7), none, some (.int x9), some (.int m783), some (.int x11), some (.long v777), none, some (.int m780), none, none]) (st' := [.int (((v790 + v794) + v798) + v802), .int v787]) rfl ?_
        refine wpl_icmp (a := 89) (b := 87) rfl (by decide) rfl rfl (wpl_br (p := v787 = (((v790 + v794) + v798) + v802)) ⟨fun hc805 => ?_, fun hc805 => ?_⟩)
        · have h806 := h803.1 hc805
          refine wpl_sl (n := 2) (pc' := 92) (ls' := [some (.ref 1), some (.long x1), none, some (.long x3), none, some (.long x5), none, some (.long x7), none, some (.int x9), some (.int m783), some (.int x11), some (.long v777), none, some (.int m780), some (.int (0 : Int32)), none]) (st' := []) rfl ?_
          exact h806
        · have h807 := h803.2 hc805
          refine wpl_sl (n := 1) (pc' := 88) (ls' := [some (.ref 1), some (.long x1), none, some (.long x3), none, some (.long x5), none, some (.long x7), none, some (.int x9), some (.int m783), some (.int x11), some (.long v777), none, some (.int m780), none, none]) (st' := [.int (0 : Int32)]) rfl ?_
          exact wpl_ret rfl rfl rfl ⟨(0 : Int32), rfl, h807⟩
      refine wpl_if (a := 51) (b := 48) rfl (by decide) rfl rfl (wpl_br (p := m780 = (0 : Int32)) ⟨fun hc808 => ?_, fun hc808 => ?_⟩)
      · first | exact hm784 _ (by simp only [if_pos hc808]) | exact wpl_lle (by repeat (first | exact trivial | refine ⟨rfl, ?_⟩)) (hm784 _ (by simp only [if_pos hc808]))
      · refine wpl_sl (n := 1) (pc' := 51) (ls' := [some (.ref 1), some (.long x1), none, some (.long x3), none, some (.long x5), none, some (.long x7), none, some (.int x9), some (.int (x10 + (1 : Int32))), some (.int x11), some (.long v777), none, some (.int m780), none, none]) (st' := []) rfl ?_
        first | exact hm784 _ (by simp only [if_neg hc808]) | exact wpl_lle (by repeat (first | exact trivial | refine ⟨rfl, ?_⟩)) (hm784 _ (by simp only [if_neg hc808]))
    refine wpl_icmp (a := 40) (b := 36) rfl (by decide) rfl rfl (wpl_br (p := ((x9 >>> (x11 &&& 31)) &&& (1 : Int32)) = (1 : Int32)) ⟨fun hc809 => ?_, fun hc809 => ?_⟩)
    · refine wpl_sl (n := 2) (pc' := 41) (ls' := [some (.ref 1), some (.long x1), none, some (.long x3), none, some (.long x5), none, some (.long x7), none, some (.int x9), some (.int x10), some (.int x11), some (.long v777), none, none, none, none]) (st' := [.int (1 : Int32)]) rfl ?_
      first | exact hm781 _ (by simp only [if_pos hc809]) | exact wpl_lle (by repeat (first | exact trivial | refine ⟨rfl, ?_⟩)) (hm781 _ (by simp only [if_pos hc809]))
    · refine wpl_sl (n := 1) (pc' := 41) (ls' := [some (.ref 1), some (.long x1), none, some (.long x3), none, some (.long x5), none, some (.long x7), none, some (.int x9), some (.int x10), some (.int x11), some (.long v777), none, none, none, none]) (st' := [.int (0 : Int32)]) rfl ?_
      first | exact hm781 _ (by simp only [if_neg hc809]) | exact wpl_lle (by repeat (first | exact trivial | refine ⟨rfl, ?_⟩)) (hm781 _ (by simp only [if_neg hc809]))
  · have h775 := h.2 hc773
    refine wpl_sl (n := 1) (pc' := 144) (ls' := [some (.ref 1), some (.long x1), none, some (.long x3), none, some (.long x5), none, some (.long x7), none, some (.int x9), some (.int x10), some (.int x11), none, none, none, none, none]) (st' := [.ref 1]) rfl ?_
    refine wpl_v1 (m' := 13) (me' := cm13) (as := []) (r := []) rfl rfl rfl rfl rfl ⟨by decide, (by first | decide | exact Nat.le_of_ble_eq_true rfl), (by first | decide | exact Nat.le_of_ble_eq_true rfl), rfl⟩ (cal_I (calI.mono h775 fun v811 s810 h812 => ?_))
    refine wpl_sl (n := 1) (pc' := 149) (ls' := [some (.ref 1), some (.long x1), none, some (.long x3), none, some (.long x5), none, some (.long x7), none, some (.int x9), some (.int x10), some (.int x11), none, none, none, none, none]) (st' := [.int x10, .int v811]) rfl ?_
    refine wpl_icmp (a := 156) (b := 152) rfl (by decide) rfl rfl (wpl_br (p := v811 = x10) ⟨fun hc813 => ?_, fun hc813 => ?_⟩)
    · have h814 := h812.1 hc813
      refine wpl_sl (n := 2) (pc' := 157) (ls' := [some (.ref 1), some (.long x1), none, some (.long x3), none, some (.long x5), none, some (.long x7), none, some (.int x9), some (.int x10), some (.int x11), none, none, none, none, none]) (st' := [.int (1 : Int32)]) rfl ?_
      exact wpl_ret rfl rfl rfl ⟨(1 : Int32), rfl, h814⟩
    · have h815 := h812.2 hc813
      refine wpl_sl (n := 1) (pc' := 157) (ls' := [some (.ref 1), some (.long x1), none, some (.long x3), none, some (.long x5), none, some (.long x7), none, some (.int x9), some (.int x10), some (.int x11), none, none, none, none, none]) (st' := [.int (0 : Int32)]) rfl ?_
      exact wpl_ret rfl rfl rfl ⟨(0 : Int32), rfl, h815⟩
theorem l5r1W1_92 (N : Nat) (sg : Nat → Int32) (x1 : Int64) (x3 : Int64) (x5 : Int64) (x7 : Int64) (x9 : Int32) (x10 : Int32) (x11 : Int32) (x12 : Int64) (x14 : Int32) (x15 : Int32) (s : St) (Q : Int32 → Wd → Prop) (h : ((x15 < (4 : Int32)) → ((x14 = (0 : Int32)) → lalI PP QQ (some (N, sg)) 2 [.long x12, .int x15] (W1 s) (fun v823 w822 => ∃ s825, w822 = W1 s825 ∧ (wplI PP QQ (some (N, sg)) 5 lm5 114 [some (.ref 1), some (.long x1), none, some (.long x3), none, some (.long x5), none, some (.long x7), none, some (.int x9), some (.int x10), some (.int x11), some (.long x12), none, some (.int x14), some (.int x15), none] [.int v823] (W1 s825) Q))) ∧ (¬ (x14 = (0 : Int32)) → wplI PP QQ (some (N, sg)) 5 lm5 114 [some (.ref 1), some (.long x1), none, some (.long x3), none, some (.long x5), none, some (.long x7), none, some (.int x9), some (.int x10), some (.int x11), some (.long x12), none, some (.int x14), some (.int x15), none] [.int (-1 : Int32)] (W1 s) Q)) ∧ (¬ (x15 < (4 : Int32)) → wplI PP QQ (some (N, sg)) 5 lm5 6 [some (.ref 1), some (.long x1), none, some (.long x3), none, some (.long x5), none, some (.long x7), none, some (.int x9), some (.int x10), some (.int (x11 + (1 : Int32))), none, none, none, none, none] [] (W1 s) Q)) : wplI PP QQ (some (N, sg)) 5 lm5 92 [some (.ref 1), some (.long x1), none, some (.long x3), none, some (.long x5), none, some (.long x7), none, some (.int x9), some (.int x10), some (.int x11), some (.long x12), none, some (.int x14), some (.int x15), none] [] (W1 s) Q := by
  refine wpl_sl (n := 2) (pc' := 95) (ls' := [some (.ref 1), some (.long x1), none, some (.long x3), none, some (.long x5), none, some (.long x7), none, some (.int x9), some (.int x10), some (.int x11), some (.long x12), none, some (.int x14), some (.int x15), none]) (st' := [.int (4 : Int32), .int x15]) rfl ?_
  refine wpl_icmp (a := 137) (b := 98) rfl (by decide) rfl rfl (wpl_br (p := x15 < (4 : Int32)) ⟨fun hc816 => ?_, fun hc816 => ?_⟩)
  · have h817 := h.1 hc816
    refine wpl_sl (n := 1) (pc' := 100) (ls' := [some (.ref 1), some (.long x1), none, some (.long x3), none, some (.long x5), none, some (.long x7), none, some (.int x9), some (.int x10), some (.int x11), some (.long x12), none, some (.int x14), some (.int x15), none]) (st' := [.int x14]) rfl ?_
    refine wpl_if (a := 107) (b := 103) rfl (by decide) rfl rfl (wpl_br (p := x14 = (0 : Int32)) ⟨fun hc819 => ?_, fun hc819 => ?_⟩)
    · have h820 := h817.1 hc819
      refine wpl_sl (n := 2) (pc' := 111) (ls' := [some (.ref 1), some (.long x1), none, some (.long x3), none, some (.long x5), none, some (.long x7), none, some (.int x9), some (.int x10), some (.int x11), some (.long x12), none, some (.int x14), some (.int x15), none]) (st' := [.int x15, .long x12]) rfl ?_
      refine wpl_stat (m' := 2) (me' := lm2) (as := [.long x12, .int x15]) (r := []) rfl rfl rfl rfl rfl ⟨(by first | decide | exact Nat.le_of_ble_eq_true rfl), (by first | decide | exact Nat.le_of_ble_eq_true rfl), (by first | decide | exact Nat.le_of_ble_eq_true rfl), (by first | decide | exact Nat.le_of_ble_eq_true rfl), rfl⟩ (lal_I (lalI.mono h820 fun v823 w822 hh => ?_))
      obtain ⟨s825, rfl, h824⟩ := hh
      exact h824
    · have h821 := h817.2 hc819
      refine wpl_sl (n := 2) (pc' := 114) (ls' := [some (.ref 1), some (.long x1), none, some (.long x3), none, some (.long x5), none, some (.long x7), none, some (.int x9), some (.int x10), some (.int x11), some (.long x12), none, some (.int x14), some (.int x15), none]) (st' := [.int (-1 : Int32)]) rfl ?_
      exact h821
  · have h818 := h.2 hc816
    refine wpl_sl (n := 2) (pc' := 6) (ls' := [some (.ref 1), some (.long x1), none, some (.long x3), none, some (.long x5), none, some (.long x7), none, some (.int x9), some (.int x10), some (.int (x11 + (1 : Int32))), some (.long x12), none, some (.int x14), some (.int x15), none]) (st' := []) rfl ?_
    exact wpl_lle (ls := [some (.ref 1), some (.long x1), none, some (.long x3), none, some (.long x5), none, some (.long x7), none, some (.int x9), some (.int x10), some (.int (x11 + (1 : Int32))), none, none, none, none, none]) ⟨rfl, rfl, rfl, rfl, rfl, rfl, rfl, rfl, trivial⟩ h818
theorem l5r1W1_114 (N : Nat) (sg : Nat → Int32) (x1 : Int64) (x3 : Int64) (x5 : Int64) (x7 : Int64) (x9 : Int32) (x10 : Int32) (x11 : Int32) (x12 : Int64) (x14 : Int32) (x15 : Int32) (y0 : Int32) (s : St) (Q : Int32 → Wd → Prop) (h : calI PP 12 16 [.ref 0, .int x11, .int x15] s (fun v827 s826 => ((v827 = y0) → wplI PP QQ (some (N, sg)) 5 lm5 92 [some (.ref 1), some (.long x1), none, some (.long x3), none, some (.long x5), none, some (.long x7), none, some (.int x9), some (.int x10), some (.int x11), some (.long x12), none, some (.int x14), some (.int (x15 + (1 : Int32))), none] [] (W1 s826) Q) ∧ (¬ (v827 = y0) → Q (0 : Int32) (W1 s826)))) : wplI PP QQ (some (N, sg)) 5 lm5 114 [some (.ref 1), some (.long x1), none, some (.long x3), none, some (.long x5), none, some (.long x7), none, some (.int x9), some (.int x10), some (.int x11), some (.long x12), none, some (.int x14), some (.int x15), none] [.int y0] (W1 s) Q := by
  refine wpl_sl (n := 4) (pc' := 121) (ls' := [some (.ref 1), some (.long x1), none, some (.long x3), none, some (.long x5), none, some (.long x7), none, some (.int x9), some (.int x10), some (.int x11), some (.long x12), none, some (.int x14), some (.int x15), some (.int y0)]) (st' := [.int x15, .int x11, .ref 1]) rfl ?_
  refine wpl_v1 (m' := 12) (me' := cm12) (as := [.int x11, .int x15]) (r := []) rfl rfl rfl rfl rfl ⟨by decide, (by first | decide | exact Nat.le_of_ble_eq_true rfl), (by first | decide | exact Nat.le_of_ble_eq_true rfl), rfl⟩ (cal_I (calI.mono h fun v827 s826 h828 => ?_))
  refine wpl_sl (n := 1) (pc' := 126) (ls' := [some (.ref 1), some (.long x1), none, some (.long x3), none, some (.long x5), none, some (.long x7), none, some (.int x9), some (.int x10), some (.int x11), some (.long x12), none, some (.int x14), some (.int x15), some (.int y0)]) (st' := [.int y0, .int v827]) rfl ?_
  refine wpl_icmp (a := 131) (b := 129) rfl (by decide) rfl rfl (wpl_br (p := v827 = y0) ⟨fun hc829 => ?_, fun hc829 => ?_⟩)
  · have h830 := h828.1 hc829
    refine wpl_sl (n := 2) (pc' := 92) (ls' := [some (.ref 1), some (.long x1), none, some (.long x3), none, some (.long x5), none, some (.long x7), none, some (.int x9), some (.int x10), some (.int x11), some (.long x12), none, some (.int x14), some (.int (x15 + (1 : Int32))), some (.int y0)]) (st' := []) rfl ?_
    exact wpl_lle (ls := [some (.ref 1), some (.long x1), none, some (.long x3), none, some (.long x5), none, some (.long x7), none, some (.int x9), some (.int x10), some (.int x11), some (.long x12), none, some (.int x14), some (.int (x15 + (1 : Int32))), none]) ⟨rfl, rfl, rfl, rfl, rfl, rfl, rfl, rfl, rfl, rfl, rfl, trivial⟩ h830
  · have h831 := h828.2 hc829
    refine wpl_sl (n := 1) (pc' := 130) (ls' := [some (.ref 1), some (.long x1), none, some (.long x3), none, some (.long x5), none, some (.long x7), none, some (.int x9), some (.int x10), some (.int x11), some (.long x12), none, some (.int x14), some (.int x15), some (.int y0)]) (st' := [.int (0 : Int32)]) rfl ?_
    exact wpl_ret rfl rfl rfl ⟨(0 : Int32), rfl, h831⟩
theorem c16_in (a1 : Int32) (s : St) (Q : Int32 → St → Prop) (h : calI PP 19 16 [.ref 0, .int a1] s (fun v882 s881 => ((v882 = (0 : Int32)) → inb 4 a1 ∧ Q (gI s881 14 (ix a1)) s881) ∧ (¬ (v882 = (0 : Int32)) → Q (-2 : Int32) s881))) : calI PP 16 16 [.ref 0, .int a1] s Q := by
  refine cal_of (me := cm16) (ls := [some (.ref 0), some (.int a1)]) rfl (Nat.le_of_ble_eq_true rfl) rfl ?_
  refine wpc_sl (n := 2) (c' := 16) (pc' := 2) (ls' := [some (.ref 0), some (.int a1)]) (st' := [.int a1, .ref 0]) (s' := s) rfl ?_
  refine wpc_callI (m' := 19) (me' := cm19) (as := [.int a1]) (r := []) rfl rfl rfl rfl rfl ⟨by decide, (by first | decide | exact Nat.le_of_ble_eq_true rfl), (by first | decide | exact Nat.le_of_ble_eq_true rfl), rfl⟩ (calI.mono h fun v882 s881 h883 => ?_)
  refine wpc_if (a := 11) (b := 8) rfl (by decide) rfl rfl (wpc_br (p := v882 = (0 : Int32)) ⟨fun hc884 => ?_, fun hc884 => ?_⟩)
  · have h885 := h883.1 hc884
    refine wpc_sl (n := 3) (c' := 16) (pc' := 16) (ls' := [some (.ref 0), some (.int a1)]) (st' := [.int a1, .ref 14]) (s' := s881) rfl ?_
    refine wpc_ldaI (a := 13) (N := 4) (v := (gI s881 14 (ix a1))) rfl rfl (by decide) h885.1 rfl ?_
    have h887 := h885.2
    exact wpc_ret rfl rfl (fun q => absurd q (by decide)) rfl ⟨(gI s881 14 (ix a1)), rfl, h887⟩
  · have h886 := h883.2 hc884
    refine wpc_sl (n := 1) (c' := 16) (pc' := 10) (ls' := [some (.ref 0), some (.int a1)]) (st' := [.int (-2 : Int32)]) (s' := s881) rfl ?_
    exact wpc_ret rfl rfl (fun q => absurd q (by decide)) rfl ⟨(-2 : Int32), rfl, h886⟩
theorem c17_in (a1 : Int32) (s : St) (Q : Int32 → St → Prop) (h : calI PP 19 16 [.ref 0, .int a1] s (fun v889 s888 => ((v889 = (0 : Int32)) → inb 4 a1 ∧ Q (gI s888 15 (ix a1)) s888) ∧ (¬ (v889 = (0 : Int32)) → Q (-2 : Int32) s888))) : calI PP 17 16 [.ref 0, .int a1] s Q := by
  refine cal_of (me := cm17) (ls := [some (.ref 0), some (.int a1)]) rfl (Nat.le_of_ble_eq_true rfl) rfl ?_
  refine wpc_sl (n := 2) (c' := 16) (pc' := 2) (ls' := [some (.ref 0), some (.int a1)]) (st' := [.int a1, .ref 0]) (s' := s) rfl ?_
  refine wpc_callI (m' := 19) (me' := cm19) (as := [.int a1]) (r := []) rfl rfl rfl rfl rfl ⟨by decide, (by first | decide | exact Nat.le_of_ble_eq_true rfl), (by first | decide | exact Nat.le_of_ble_eq_true rfl), rfl⟩ (calI.mono h fun v889 s888 h890 => ?_)
  refine wpc_if (a := 11) (b := 8) rfl (by decide) rfl rfl (wpc_br (p := v889 = (0 : Int32)) ⟨fun hc891 => ?_, fun hc891 => ?_⟩)
  · have h892 := h890.1 hc891
    refine wpc_sl (n := 3) (c' := 16) (pc' := 16) (ls' := [some (.ref 0), some (.int a1)]) (st' := [.int a1, .ref 15]) (s' := s888) rfl ?_
    refine wpc_ldaI (a := 14) (N := 4) (v := (gI s888 15 (ix a1))) rfl rfl (by decide) h892.1 rfl ?_
    have h894 := h892.2
    exact wpc_ret rfl rfl (fun q => absurd q (by decide)) rfl ⟨(gI s888 15 (ix a1)), rfl, h894⟩
  · have h893 := h890.2 hc891
    refine wpc_sl (n := 1) (c' := 16) (pc' := 10) (ls' := [some (.ref 0), some (.int a1)]) (st' := [.int (-2 : Int32)]) (s' := s888) rfl ?_
    exact wpc_ret rfl rfl (fun q => absurd q (by decide)) rfl ⟨(-2 : Int32), rfl, h893⟩
theorem c15_in (a1 : Int32) (s : St) (Q : Int32 → St → Prop) (h : calI PP 19 16 [.ref 0, .int a1] s (fun v896 s895 => ((v896 = (0 : Int32)) → inb 4 a1 ∧ Q (gI s895 13 (ix a1)) s895) ∧ (¬ (v896 = (0 : Int32)) → Q (-2 : Int32) s895))) : calI PP 15 16 [.ref 0, .int a1] s Q := by
  refine cal_of (me := cm15) (ls := [some (.ref 0), some (.int a1)]) rfl (Nat.le_of_ble_eq_true rfl) rfl ?_
  refine wpc_sl (n := 2) (c' := 16) (pc' := 2) (ls' := [some (.ref 0), some (.int a1)]) (st' := [.int a1, .ref 0]) (s' := s) rfl ?_
  refine wpc_callI (m' := 19) (me' := cm19) (as := [.int a1]) (r := []) rfl rfl rfl rfl rfl ⟨by decide, (by first | decide | exact Nat.le_of_ble_eq_true rfl), (by first | decide | exact Nat.le_of_ble_eq_true rfl), rfl⟩ (calI.mono h fun v896 s895 h897 => ?_)
  refine wpc_if (a := 11) (b := 8) rfl (by decide) rfl rfl (wpc_br (p := v896 = (0 : Int32)) ⟨fun hc898 => ?_, fun hc898 => ?_⟩)
  · have h899 := h897.1 hc898
    refine wpc_sl (n := 3) (c' := 16) (pc' := 16) (ls' := [some (.ref 0), some (.int a1)]) (st' := [.int a1, .ref 13]) (s' := s895) rfl ?_
    refine wpc_ldaI (a := 12) (N := 4) (v := (gI s895 13 (ix a1))) rfl rfl (by decide) h899.1 rfl ?_
    have h901 := h899.2
    exact wpc_ret rfl rfl (fun q => absurd q (by decide)) rfl ⟨(gI s895 13 (ix a1)), rfl, h901⟩
  · have h900 := h897.2 hc898
    refine wpc_sl (n := 1) (c' := 16) (pc' := 10) (ls' := [some (.ref 0), some (.int a1)]) (st' := [.int (-2 : Int32)]) (s' := s895) rfl ?_
    exact wpc_ret rfl rfl (fun q => absurd q (by decide)) rfl ⟨(-2 : Int32), rfl, h900⟩
theorem c6_in (a1 : Int32) (a2 : Int32) (a3 : Int32) (a4 : Int32) (s : St) (Q : Int32 → St → Prop) (h : calI PP 19 16 [.ref 0, .int a1] s (fun v903 s902 => ((v903 = (0 : Int32)) → calI PP 20 16 [.ref 0, .int a2] s902 (fun v909 s908 => ((v909 = (0 : Int32)) → calI PP 21 16 [.ref 0, .int a3] s908 (fun v915 s914 => ((v915 = (0 : Int32)) → calI PP 32 16 [.ref 0, .int a1, .int a2, .int (1 : Int32)] s914 (fun v921 s920 => calV PP 25 16 [.ref 0, .int v921, .int a2, .int a3, .int (a4 &&& (65535 : Int32))] s920 (fun s923 => calV PP 27 16 [.ref 0, .int v921] s923 (fun s926 => calV PP 29 16 [.ref 0, .int v921] s926 (fun s929 => inb 32 a2 ∧ inb 4 a1 ∧ inb 4 a1 ∧ Q (0 : Int32) (sI (sI s929 2 (ix a2) (0 : Int32)) 15 (ix a1) ((gI s929 15 (ix a1)) + (1 : Int32)))))))) ∧ (¬ (v915 = (0 : Int32)) → Q (-4 : Int32) s914))) ∧ (¬ (v909 = (0 : Int32)) → Q (-3 : Int32) s908))) ∧ (¬ (v903 = (0 : Int32)) → Q (-2 : Int32) s902))) : calI PP 6 16 [.ref 0, .int a1, .int a2, .int a3, .int a4] s Q := by
  refine cal_of (me := cm6) (ls := [some (.ref 0), some (.int a1), some (.int a2), some (.int a3), some (.int a4), none]) rfl (Nat.le_of_ble_eq_true rfl) rfl ?_
  refine wpc_sl (n := 2) (c' := 16) (pc' := 2) (ls' := [some (.ref 0), some (.int a1), some (.int a2), some (.int a3), some (.int a4), none]) (st' := [.int a1, .ref 0]) (s' := s) rfl ?_
  refine wpc_callI (m' := 19) (me' := cm19) (as := [.int a1]) (r := []) rfl rfl rfl rfl rfl ⟨by decide, (by first | decide | exact Nat.le_of_ble_eq_true rfl), (by first | decide | exact Nat.le_of_ble_eq_true rfl), rfl⟩ (calI.mono h fun v903 s902 h904 => ?_)
  refine wpc_if (a := 11) (b := 8) rfl (by decide) rfl rfl (wpc_br (p := v903 = (0 : Int32)) ⟨fun hc905 => ?_, fun hc905 => ?_⟩)
  · have h906 := h904.1 hc905
    refine wpc_sl (n := 2) (c' := 16) (pc' := 13) (ls' := [some (.ref 0), some (.int a1), some (.int a2), some (.int a3), some (.int a4), none]) (st' := [.int a2, .ref 0]) (s' := s902) rfl ?_
    refine wpc_callI (m' := 20) (me' := cm20) (as := [.int a2]) (r := []) rfl rfl rfl rfl rfl ⟨by decide, (by first | decide | exact Nat.le_of_ble_eq_true rfl), (by first | decide | exact Nat.le_of_ble_eq_true rfl), rfl⟩ (calI.mono h906 fun v909 s908 h910 => ?_)
    refine wpc_if (a := 22) (b := 19) rfl (by decide) rfl rfl (wpc_br (p := v909 = (0 : Int32)) ⟨fun hc911 => ?_, fun hc911 => ?_⟩)
    · have h912 := h910.1 hc911
      refine wpc_sl (n := 2) (c' := 16) (pc' := 24) (ls' := [some (.ref 0), some (.int a1), some (.int a2), some (.int a3), some (.int a4), none]) (st' := [.int a3, .ref 0]) (s' := s908) rfl ?_
      refine wpc_callI (m' := 21) (me' := cm21) (as := [.int a3]) (r := []) rfl rfl rfl rfl rfl ⟨by decide, (by first | decide | exact Nat.le_of_ble_eq_true rfl), (by first | decide | exact Nat.le_of_ble_eq_true rfl), rfl⟩ (calI.mono h912 fun v915 s914 h916 => ?_)
      refine wpc_if (a := 33) (b := 30) rfl (by decide) rfl rfl (wpc_br (p := v915 = (0 : Int32)) ⟨fun hc917 => ?_, fun hc917 => ?_⟩)
      · have h918 := h916.1 hc917
        refine wpc_sl (n := 4) (c' := 16) (pc' := 37) (ls' := [some (.ref 0), some (.int a1), some (.int a2), some (.int a3), some (.int a4), none]) (st' := [.int (1 : Int32), .int a2, .int a1, .ref 0]) (s' := s914) rfl ?_
        refine wpc_callI (m' := 32) (me' := cm32) (as := [.int a1, .int a2, .int (1 : Int32)]) (r := []) rfl rfl rfl rfl rfl ⟨by decide, (by first | decide | exact Nat.le_of_ble_eq_true rfl), (by first | decide | exact Nat.le_of_ble_eq_true rfl), rfl⟩ (calI.mono h918 fun v921 s920 h922 => ?_)
        refine wpc_sl (n := 8) (c' := 16) (pc' := 52) (ls' := [some (.ref 0), some (.int a1), some (.int a2), some (.int a3), some (.int a4), some (.int v921)]) (st' := [.int (a4 &&& (65535 : Int32)), .int a3, .int a2, .int v921, .ref 0]) (s' := s920) rfl ?_
        refine wpc_callV (m' := 25) (me' := cm25) (as := [.int v921, .int a2, .int a3, .int (a4 &&& (65535 : Int32))]) (r := []) rfl rfl rfl rfl rfl ⟨by decide, (by first | decide | exact Nat.le_of_ble_eq_true rfl), (by first | decide | exact Nat.le_of_ble_eq_true rfl), rfl⟩ (calV.mono h922 fun s923 h925 => ?_)
        refine wpc_sl (n := 2) (c' := 16) (pc' := 58) (ls' := [some (.ref 0), some (.int a1), some (.int a2), some (.int a3), some (.int a4), some (.int v921)]) (st' := [.int v921, .ref 0]) (s' := s923) rfl ?_
        refine wpc_callV (m' := 27) (me' := cm27) (as := [.int v921]) (r := []) rfl rfl rfl rfl rfl ⟨by decide, (by first | decide | exact Nat.le_of_ble_eq_true rfl), (by first | decide | exact Nat.le_of_ble_eq_true rfl), rfl⟩ (calV.mono h925 fun s926 h928 => ?_)
        refine wpc_sl (n := 2) (c' := 16) (pc' := 64) (ls' := [some (.ref 0), some (.int a1), some (.int a2), some (.int a3), some (.int a4), some (.int v921)]) (st' := [.int v921, .ref 0]) (s' := s926) rfl ?_
        refine wpc_callV (m' := 29) (me' := cm29) (as := [.int v921]) (r := []) rfl rfl rfl rfl rfl ⟨by decide, (by first | decide | exact Nat.le_of_ble_eq_true rfl), (by first | decide | exact Nat.le_of_ble_eq_true rfl), rfl⟩ (calV.mono h928 fun s929 h931 => ?_)
        refine wpc_sl (n := 4) (c' := 16) (pc' := 73) (ls' := [some (.ref 0), some (.int a1), some (.int a2), some (.int a3), some (.int a4), some (.int v921)]) (st' := [.int (0 : Int32), .int a2, .ref 2]) (s' := s929) rfl ?_
        refine wpc_staZ (a := 1) (N := 32) (s' := (sI s929 2 (ix a2) (0 : Int32))) rfl rfl (by decide) h931.1 rfl ?_
        have h932 := h931.2
        refine wpc_sl (n := 6) (c' := 16) (pc' := 84) (ls' := [some (.ref 0), some (.int a1), some (.int a2), some (.int a3), some (.int a4), some (.int v921)]) (st' := [.int a1, .ref 15, .int a1, .ref 15]) (s' := (sI s929 2 (ix a2) (0 : Int32))) rfl ?_
        refine wpc_ldaI (a := 14) (N := 4) (v := (gI s929 15 (ix a1))) rfl rfl (by decide) h932.1 rfl ?_
        have h933 := h932.2
        refine wpc_sl (n := 2) (c' := 16) (pc' := 87) (ls' := [some (.ref 0), some (.int a1), some (.int a2), some (.int a3), some (.int a4), some (.int v921)]) (st' := [.int ((gI s929 15 (ix a1)) + (1 : Int32)), .int a1, .ref 15]) (s' := (sI s929 2 (ix a2) (0 : Int32))) rfl ?_
        refine wpc_staI (a := 14) (N := 4) (s' := (sI (sI s929 2 (ix a2) (0 : Int32)) 15 (ix a1) ((gI s929 15 (ix a1)) + (1 : Int32)))) rfl rfl (by decide) h933.1 rfl ?_
        have h934 := h933.2
        refine wpc_sl (n := 1) (c' := 16) (pc' := 89) (ls' := [some (.ref 0), some (.int a1), some (.int a2), some (.int a3), some (.int a4), some (.int v921)]) (st' := [.int (0 : Int32)]) (s' := (sI (sI s929 2 (ix a2) (0 : Int32)) 15 (ix a1) ((gI s929 15 (ix a1)) + (1 : Int32)))) rfl ?_
        exact wpc_ret rfl rfl (fun q => absurd q (by decide)) rfl ⟨(0 : Int32), rfl, h934⟩
      · have h919 := h916.2 hc917
        refine wpc_sl (n := 1) (c' := 16) (pc' := 32) (ls' := [some (.ref 0), some (.int a1), some (.int a2), some (.int a3), some (.int a4), none]) (st' := [.int (-4 : Int32)]) (s' := s914) rfl ?_
        exact wpc_ret rfl rfl (fun q => absurd q (by decide)) rfl ⟨(-4 : Int32), rfl, h919⟩
    · have h913 := h910.2 hc911
      refine wpc_sl (n := 1) (c' := 16) (pc' := 21) (ls' := [some (.ref 0), some (.int a1), some (.int a2), some (.int a3), some (.int a4), none]) (st' := [.int (-3 : Int32)]) (s' := s908) rfl ?_
      exact wpc_ret rfl rfl (fun q => absurd q (by decide)) rfl ⟨(-3 : Int32), rfl, h913⟩
  · have h907 := h904.2 hc905
    refine wpc_sl (n := 1) (c' := 16) (pc' := 10) (ls' := [some (.ref 0), some (.int a1), some (.int a2), some (.int a3), some (.int a4), none]) (st' := [.int (-2 : Int32)]) (s' := s902) rfl ?_
    exact wpc_ret rfl rfl (fun q => absurd q (by decide)) rfl ⟨(-2 : Int32), rfl, h907⟩
theorem l3W1_in (N : Nat) (sg : Nat → Int32) (a0 : Int64) (a1 : Int32) (a2 : Int32) (s : St) (Q : Int64 → Wd → Prop) (h : Q ((a0 &&& (((65535 : Int64) <<< ((((16 : Int32) * a1)).toInt64 &&& 63)) ^^^ (-1 : Int64))) ||| (((Int32.toInt64 a2) &&& (65535 : Int64)) <<< ((((16 : Int32) * a1)).toInt64 &&& 63))) (W1 s)) : lalL PP QQ (some (N, sg)) 3 [.long a0, .int a1, .int a2] (W1 s) Q := by
  refine lal_of (me := lm3) (ls := [some (.long a0), none, some (.int a1), some (.int a2)]) rfl (Nat.le_of_ble_eq_true rfl) rfl ?_
  refine wpl_sl (n := 5) (pc' := 8) (ls' := [some (.long a0), none, some (.int a1), some (.int a2)]) (st' := [.int ((16 : Int32) * a1), .long (65535 : Int64), .long a0]) rfl ?_
  refine wpl_sl (n := 5) (pc' := 15) (ls' := [some (.long a0), none, some (.int a1), some (.int a2)]) (st' := [.int a2, .long (a0 &&& (((65535 : Int64) <<< ((((16 : Int32) * a1)).toInt64 &&& 63)) ^^^ (-1 : Int64)))]) rfl ?_
  refine wpl_sl (n := 5) (pc' := 23) (ls' := [some (.long a0), none, some (.int a1), some (.int a2)]) (st' := [.int a1, .int (16 : Int32), .long ((Int32.toInt64 a2) &&& (65535 : Int64)), .long (a0 &&& (((65535 : Int64) <<< ((((16 : Int32) * a1)).toInt64 &&& 63)) ^^^ (-1 : Int64)))]) rfl ?_
  refine wpl_sl (n := 3) (pc' := 26) (ls' := [some (.long a0), none, some (.int a1), some (.int a2)]) (st' := [.long ((a0 &&& (((65535 : Int64) <<< ((((16 : Int32) * a1)).toInt64 &&& 63)) ^^^ (-1 : Int64))) ||| (((Int32.toInt64 a2) &&& (65535 : Int64)) <<< ((((16 : Int32) * a1)).toInt64 &&& 63)))]) rfl ?_
  exact wpl_ret rfl rfl rfl ⟨((a0 &&& (((65535 : Int64) <<< ((((16 : Int32) * a1)).toInt64 &&& 63)) ^^^ (-1 : Int64))) ||| (((Int32.toInt64 a2) &&& (65535 : Int64)) <<< ((((16 : Int32) * a1)).toInt64 &&& 63))), rfl, h⟩
theorem l0_in (N : Nat) (sg : Nat → Int32)   (Q : Int32 → Wd → Prop) (h : (((0 : Int32) < (Int32.ofNat N)) → inb N (0 : Int32) ∧ wplI PP QQ (some (N, sg)) 0 lm0 20 [some (.ref 0), some (.int (0 : Int32)), none, none, none, none, none, none, none, none, none, none, none, none, none, none, none, none, none, none, none, none, none, none, none, none, none, none, none, none, none, none] [.int (sg (ix (0 : Int32))), .int (8 : Int32), .ref 1, .ref 1] W0p Q) ∧ (¬ ((0 : Int32) < (Int32.ofNat N)) → wplI PP QQ (some (N, sg)) 0 lm0 20 [some (.ref 0), some (.int (0 : Int32)), none, none, none, none, none, none, none, none, none, none, none, none, none, none, none, none, none, none, none, none, none, none, none, none, none, none, none, none, none, none] [.int (3 : Int32), .int (8 : Int32), .ref 1, .ref 1] W0p Q)) : lalI PP QQ (some (N, sg)) 0 [.ref 0] W0 Q := by
  refine lal_of (me := lm0) (ls := [some (.ref 0), none, none, none, none, none, none, none, none, none, none, none, none, none, none, none, none, none, none, none, none, none, none, none, none, none, none, none, none, none, none, none]) rfl (Nat.le_of_ble_eq_true rfl) rfl ?_
  refine wpl_sl (n := 2) (pc' := 2) (ls' := [some (.ref 0), some (.int (0 : Int32)), none, none, none, none, none, none, none, none, none, none, none, none, none, none, none, none, none, none, none, none, none, none, none, none, none, none, none, none, none, none]) (st' := []) rfl ?_
  refine wpl_new0 rfl rfl (by decide) (by decide) ?_
  refine wpl_sl (n := 3) (pc' := 9) (ls' := [some (.ref 0), some (.int (0 : Int32)), none, none, none, none, none, none, none, none, none, none, none, none, none, none, none, none, none, none, none, none, none, none, none, none, none, none, none, none, none, none]) (st' := [.ref 0, .int (8 : Int32), .ref 1, .ref 1]) rfl ?_
  refine wpl_len rfl ?_
  refine wpl_if (a := 19) (b := 13) rfl (by decide) rfl rfl (wpl_br (p := (0 : Int32) < (Int32.ofNat N)) ⟨fun hc1 => ?_, fun hc1 => ?_⟩)
  · have h2 := h.1 hc1
    refine wpl_sl (n := 2) (pc' := 15) (ls' := [some (.ref 0), some (.int (0 : Int32)), none, none, none, none, none, none, none, none, none, none, none, none, none, none, none, none, none, none, none, none, none, none, none, none, none, none, none, none, none, none]) (st' := [.int (0 : Int32), .ref 0, .int (8 : Int32), .ref 1, .ref 1]) rfl ?_
    refine wpl_lda rfl h2.1 ?_
    have h4 := h2.2
    refine wpl_sl (n := 1) (pc' := 20) (ls' := [some (.ref 0), some (.int (0 : Int32)), none, none, none, none, none, none, none, none, none, none, none, none, none, none, none, none, none, none, none, none, none, none, none, none, none, none, none, none, none, none]) (st' := [.int (sg (ix (0 : Int32))), .int (8 : Int32), .ref 1, .ref 1]) rfl ?_
    exact h4
  · have h3 := h.2 hc1
    refine wpl_sl (n := 1) (pc' := 20) (ls' := [some (.ref 0), some (.int (0 : Int32)), none, none, none, none, none, none, none, none, none, none, none, none, none, none, none, none, none, none, none, none, none, none, none, none, none, none, none, none, none, none]) (st' := [.int (3 : Int32), .int (8 : Int32), .ref 1, .ref 1]) rfl ?_
    exact h3
theorem l0_20 (N : Nat) (sg : Nat → Int32) (x1 : Int32) (y0 : Int32) (y1 : Int32)  (Q : Int32 → Wd → Prop) (h : calV PP 0 0 [.ref 0, .int y1, .int y0, .int (2 : Int32)] s0 (fun s5 => wplI PP QQ (some (N, sg)) 0 lm0 62 [some (.ref 0), some (.int x1), some (.ref 1), some (.long (0 : Int64)), none, some (.long (0 : Int64)), none, some (.long (0 : Int64)), none, some (.long (0 : Int64)), none, some (.int (0 : Int32)), some (.int (0 : Int32)), some (.int (0 : Int32)), some (.int (0 : Int32)), some (.int (0 : Int32)), some (.int (-5 : Int32)), some (.int (-5 : Int32)), some (.int (1 : Int32)), none, none, none, none, none, none, none, none, none, none, none, none, none] [] (W1 s5) Q)) : wplI PP QQ (some (N, sg)) 0 lm0 20 [some (.ref 0), some (.int x1), none, none, none, none, none, none, none, none, none, none, none, none, none, none, none, none, none, none, none, none, none, none, none, none, none, none, none, none, none, none] [.int y0, .int y1, .ref 1, .ref 1] W0p Q := by
  refine wpl_sl (n := 1) (pc' := 21) (ls' := [some (.ref 0), some (.int x1), none, none, none, none, none, none, none, none, none, none, none, none, none, none, none, none, none, none, none, none, none, none, none, none, none, none, none, none, none, none]) (st' := [.int (2 : Int32), .int y0, .int y1, .ref 1, .ref 1]) rfl ?_
  refine wpl_ctor0 (me' := cm0) (as := [.int y1, .int y0, .int (2 : Int32)]) (r := [.ref 1]) rfl rfl rfl rfl rfl ⟨by decide, by decide, rfl, by decide, by decide⟩ (calV.mono h fun s5 h6 => ?_)
  refine wpl_sl (n := 5) (pc' := 30) (ls' := [some (.ref 0), some (.int x1), some (.ref 1), some (.long (0 : Int64)), none, some (.long (0 : Int64)), none, none, none, none, none, none, none, none, none, none, none, none, none, none, none, none, none, none, none, none, none, none, none, none, none, none]) (st' := []) rfl ?_
  refine wpl_sl (n := 5) (pc' := 37) (ls' := [some (.ref 0), some (.int x1), some (.ref 1), some (.long (0 : Int64)), none, some (.long (0 : Int64)), none, some (.long (0 : Int64)), none, some (.long (0 : Int64)), none, none, none, none, none, none, none, none, none, none, none, none, none, none, none, none, none, none, none, none, none, none]) (st' := [.int (0 : Int32)]) rfl ?_
  refine wpl_sl (n := 5) (pc' := 45) (ls' := [some (.ref 0), some (.int x1), some (.ref 1), some (.long (0 : Int64)), none, some (.long (0 : Int64)), none, some (.long (0 : Int64)), none, some (.long (0 : Int64)), none, some (.int (0 : Int32)), some (.int (0 : Int32)), some (.int (0 : Int32)), none, none, none, none, none, none, none, none, none, none, none, none, none, none, none, none, none, none]) (st' := []) rfl ?_
  refine wpl_sl (n := 5) (pc' := 53) (ls' := [some (.ref 0), some (.int x1), some (.ref 1), some (.long (0 : Int64)), none, some (.long (0 : Int64)), none, some (.long (0 : Int64)), none, some (.long (0 : Int64)), none, some (.int (0 : Int32)), some (.int (0 : Int32)), some (.int (0 : Int32)), some (.int (0 : Int32)), some (.int (0 : Int32)), none, none, none, none, none, none, none, none, none, none, none, none, none, none, none, none]) (st' := [.int (-5 : Int32)]) rfl ?_
  refine wpl_sl (n := 5) (pc' := 62) (ls' := [some (.ref 0), some (.int x1), some (.ref 1), some (.long (0 : Int64)), none, some (.long (0 : Int64)), none, some (.long (0 : Int64)), none, some (.long (0 : Int64)), none, some (.int (0 : Int32)), some (.int (0 : Int32)), some (.int (0 : Int32)), some (.int (0 : Int32)), some (.int (0 : Int32)), some (.int (-5 : Int32)), some (.int (-5 : Int32)), some (.int (1 : Int32)), none, none, none, none, none, none, none, none, none, none, none, none, none]) (st' := []) rfl ?_
  exact h6
theorem l0_62 (N : Nat) (sg : Nat → Int32) (x1 : Int32) (x3 : Int64) (x5 : Int64) (x7 : Int64) (x9 : Int64) (x11 : Int32) (x12 : Int32) (x13 : Int32) (x14 : Int32) (x15 : Int32) (x16 : Int32) (x17 : Int32) (x18 : Int32)  (Q : Int32 → Wd → Prop) (h : (((x18 + (4 : Int32)) < (Int32.ofNat N)) → ((x18 < (81 : Int32)) → inb N x18 ∧ inb N (x18 + (1 : Int32)) ∧ inb N (x18 + (2 : Int32)) ∧ inb N (x18 + (3 : Int32)) ∧ inb N (x18 + (4 : Int32)) ∧ inb N (x18 + (1 : Int32)) ∧ ∀ m19, m19 = (if ((sg (ix (x18 + (1 : Int32)))) &&& (14 : Int32)) = (14 : Int32) then (2 : Int32) else ((sg (ix (x18 + (1 : Int32)))) &&& (1 : Int32))) → (inb N (x18 + (2 : Int32)) ∧ ∀ m23, m23 = (if ((sg (ix (x18 + (2 : Int32)))) &&& (28 : Int32)) = (28 : Int32) then (((sg (ix (x18 + (2 : Int32)))) &&& (3 : Int32)) + (8 : Int32)) else ((sg (ix (x18 + (2 : Int32)))) &&& (3 : Int32))) → (inb N (x18 + (3 : Int32)) ∧ ∀ m27, m27 = (if ((sg (ix (x18 + (3 : Int32)))) &&& (28 : Int32)) = (28 : Int32) then (((sg (ix (x18 + (3 : Int32)))) &&& (3 : Int32)) + (8 : Int32)) else ((sg (ix (x18 + (3 : Int32)))) &&& (3 : Int32))) → ∀ m28, m28 = (if ((sg (ix (x18 + (3 : Int32)))) &&& (28 : Int32)) = (28 : Int32) then (4 : Int32) else ((sg (ix (x18 + (3 : Int32)))) &&& (3 : Int32))) → (∀ m31, m31 = (if m19 = (2 : Int32) then (-2 : Int32) else (if (3 : Int32) < m23 then (-3 : Int32) else x1)) → (lalL PP QQ (some (N, sg)) 4 [.long x3, .long x5, .long x7, .long x9, .int m23] (W1 s) (fun v35 w34 => ∃ s37, w34 = W1 s37 ∧ (((((sg (ix x18)) &&& (7 : Int32)) = (0 : Int32)) → ∀ m41, m41 = (if m31 = x1 then (if (3 : Int32) < m28 then (-4 : Int32) else m31) else m31) → (calI PP 5 16 [.ref 0, .int m19, .int m23, .int m28] s37 (fun v45 s44 => ((m41 = x1) → lalI PP QQ (some (N, sg)) 2 [.long v35, .int m28] (W1 s44) (fun v51 w50 => ∃ s53, w50 = W1 s53 ∧ (∀ m54, m54 = (if m19 = (0 : Int32) then (x12 + (1 : Int32)) else x12) → ∀ m55, m55 = (if m19 = (0 : Int32) then x13 else (x13 + (1 : Int32))) → ∀ m56, m56 = (if m19 = (0 : Int32) then v51 else x16) → ∀ m57, m57 = (if m19 = (0 : Int32) then x17 else v51) → (wplI PP QQ (some (N, sg)) 0 lm0 575 [some (.ref 0), some (.int x1), some (.ref 1), some (.long x3), none, some (.long x5), none, some (.long x7), none, some (.long x9), none, some (.int x11), some (.int m54), some (.int m55), some (.int x14), some (.int x15), some (.int m56), some (.int m57), some (.int x18), none, some (.int m19), none, none, none, none, some (.int v51), some (.long v35), none, some (.int (-1 : Int32)), some (.int v45), none, none] [] (W1 s53) Q)))) ∧ (¬ (m41 = x1) → wplI PP QQ (some (N, sg)) 0 lm0 575 [some (.ref 0), some (.int x1), some (.ref 1), some (.long x3), none, some (.long x5), none, some (.long x7), none, some (.long x9), none, some (.int x11), some (.int x12), some (.int x13), some (.int x14), some (.int x15), some (.int x16), some (.int x17), some (.int x18), none, some (.int m19), none, none, none, none, some (.int m41), some (.long v35), none, some (.int (-1 : Int32)), some (.int v45), none, none] [] (W1 s44) Q)))) ∧ (¬ (((sg (ix x18)) &&& (7 : Int32)) = (0 : Int32)) → ((((sg (ix x18)) &&& (7 : Int32)) = (1 : Int32)) → wplI PP QQ (some (N, sg)) 0 lm0 322 [some (.ref 0), some (.int x1), some (.ref 1), some (.long x3), none, some (.long x5), none, some (.long x7), none, some (.long x9), none, some (.int x11), some (.int x12), some (.int x13), some (.int x14), some (.int x15), some (.int x16), some (.int x17), some (.int x18), none, some (.int m19), some (.int m23), none, some (.int (sg (ix (x18 + (4 : Int32))))), some (.int m28), some (.int m31), some (.long v35), none, some (.int (-1 : Int32)), none, none, none] [] (W1 s37) Q) ∧ (¬ (((sg (ix x18)) &&& (7 : Int32)) = (1 : Int32)) → ((((sg (ix x18)) &&& (7 : Int32)) = (7 : Int32)) → wplI PP QQ (some (N, sg)) 0 lm0 322 [some (.ref 0), some (.int x1), some (.ref 1), some (.long x3), none, some (.long x5), none, some (.long x7), none, some (.long x9), none, some (.int x11), some (.int x12), some (.int x13), some (.int x14), some (.int x15), some (.int x16), some (.int x17), some (.int x18), none, some (.int m19), some (.int m23), none, some (.int (sg (ix (x18 + (4 : Int32))))), some (.int m28), some (.int m31), some (.long v35), none, some (.int (-1 : Int32)), none, none, none] [] (W1 s37) Q) ∧ (¬ (((sg (ix x18)) &&& (7 : Int32)) = (7 : Int32)) → ((((sg (ix x18)) &&& (7 : Int32)) = (2 : Int32)) → calI PP 7 16 [.ref 0, .int m19, .int m23, .int (sg (ix (x18 + (4 : Int32))))] s37 (fun v73 s72 => ∀ m75, m75 = (if m31 = x1 then (((((Int32.toInt64 (sg (ix (x18 + (4 : Int32))))) &&& (65535 : Int64)) ||| (((Int32.toInt64 (sg (ix (x18 + (4 : Int32))))) &&& (65535 : Int64)) <<< (((16 : Int32)).toInt64 &&& 63))) ||| (((Int32.toInt64 (sg (ix (x18 + (4 : Int32))))) &&& (65535 : Int64)) <<< (((32 : Int32)).toInt64 &&& 63))) ||| (((Int32.toInt64 (sg (ix (x18 + (4 : Int32))))) &&& (65535 : Int64)) <<< (((48 : Int32)).toInt64 &&& 63))) else v35) → ∀ m76, m76 = (if m31 = x1 then m23 else (-1 : Int32)) → (wplI PP QQ (some (N, sg)) 0 lm0 575 [some (.ref 0), some (.int x1), some (.ref 1), some (.long x3), none, some (.long x5), none, some (.long x7), none, some (.long x9), none, some (.int x11), some (.int x12), some (.int x13), some (.int x14), some (.int x15), some (.int x16), some (.int x17), some (.int x18), none, some (.int m19), none, none, none, none, some (.int m31), some (.long m75), none, some (.int m76), some (.int v73), none, none] [] (W1 s72) Q))) ∧ (¬ (((sg (ix x18)) &&& (7 : Int32)) = (2 : Int32)) → ((((sg (ix x18)) &&& (7 : Int32)) = (3 : Int32)) → ∀ m83, m83 = (if m31 = x1 then (if (3 : Int32) < m27 then (-3 : Int32) else m31) else m31) → (calI PP 8 16 [.ref 0, .int m19, .int m23, .int m27] s37 (fun v87 s86 => ∀ m89, m89 = (if m83 = x1 then (if m19 = (0 : Int32) then (x12 + (1 : Int32)) else x12) else x12) → ∀ m90, m90 = (if m83 = x1 then (if m19 = (0 : Int32) then x13 else (x13 + (1 : Int32))) else x13) → ∀ m91, m91 = (if m83 = x1 then m27 else (-1 : Int32)) → (wplI PP QQ (some (N, sg)) 0 lm0 575 [some (.ref 0), some (.int x1), some (.ref 1), some (.long x3), none, some (.long x5), none, some (.long x7), none, some (.long x9), none, some (.int x11), some (.int m89), some (.int m90), some (.int x14), some (.int x15), some (.int x16), some (.int x17), some (.int x18), none, some (.int m19), none, none, none, none, some (.int m83), some (.long v35), none, some (.int m91), some (.int v87), none, none] [] (W1 s86) Q)))) ∧ (¬ (((sg (ix x18)) &&& (7 : Int32)) = (3 : Int32)) → ((((sg (ix x18)) &&& (7 : Int32)) = (4 : Int32)) → calV PP 9 16 [.ref 0, .int (sg (ix (x18 + (4 : Int32))))] s37 (fun s101 => wplI PP QQ (some (N, sg)) 0 lm0 575 [some (.ref 0), some (.int x1), some (.ref 1), some (.long x3), none, some (.long x5), none, some (.long x7), none, some (.long x9), none, some (.int x11), some (.int x12), some (.int x13), some (.int x14), some (.int x15), some (.int x16), some (.int x17), some (.int x18), none, some (.int m19), none, none, none, none, some (.int x1), some (.long v35), none, some (.int (-1 : Int32)), some (.int x1), none, none] [] (W1 s101) Q)) ∧ (¬ (((sg (ix x18)) &&& (7 : Int32)) = (4 : Int32)) → ((((sg (ix x18)) &&& (7 : Int32)) = (5 : Int32)) → ∀ m107, m107 = (if (3 : Int32) < m23 then (-3 : Int32) else x1) → (calI PP 10 16 [.ref 0, .int m23] s37 (fun v111 s110 => wplI PP QQ (some (N, sg)) 0 lm0 545 [some (.ref 0), some (.int x1), some (.ref 1), some (.long x3), none, some (.long x5), none, some (.long x7), none, some (.long x9), none, some (.int x11), some (.int x12), some (.int x13), some (.int x14), some (.int x15), some (.int x16), some (.int x17), some (.int x18), none, some (.int m19), some (.int m23), none, none, none, some (.int m107), some (.long v35), none, some (.int (-1 : Int32)), some (.int v111), none, none] [] (W1 s110) Q))) ∧ (¬ (((sg (ix x18)) &&& (7 : Int32)) = (5 : Int32)) → calV PP 11 16 [.ref 0] s37 (fun s114 => wplI PP QQ (some (N, sg)) 0 lm0 575 [some (.ref 0), some (.int x1), some (.ref 1), some (.long x3), none, some (.long x5), none, some (.long x7), none, some (.long x9), none, some (.int (0 : Int32)), some (.int x12), some (.int x13), some (.int x14), some (.int x15), some (.int x16), some (.int x17), some (.int x18), none, some (.int m19), none, none, none, none, some (.int x1), some (.long v35), none, some (.int (-1 : Int32)), some (.int x1), none, none] [] (W1 s114) Q))))))))))))))) ∧ (¬ (x18 < (81 : Int32)) → Q (1 : Int32) (W1 s))) ∧ (¬ ((x18 + (4 : Int32)) < (Int32.ofNat N)) → Q (1 : Int32) (W1 s))) : wplI PP QQ (some (N, sg)) 0 lm0 62 [some (.ref 0), some (.int x1), some (.ref 1), some (.long x3), none, some (.long x5), none, some (.long x7), none, some (.long x9), none, some (.int x11), some (.int x12), some (.int x13), some (.int x14), some (.int x15), some (.int x16), some (.int x17), some (.int x18), none, none, none, none, none, none, none, none, none, none, none, none, none] [] (W1 s) Q := by
  refine wpl_sl (n := 4) (pc' := 67) (ls' := [some (.ref 0), some (.int x1), some (.ref 1), some (.long x3), none, some (.long x5), none, some (.long x7), none, some (.long x9), none, some (.int x11), some (.int x12), some (.int x13), some (.int x14), some (.int x15), some (.int x16), some (.int x17), some (.int x18), none, none, none, none, none, none, none, none, none, none, none, none, none]) (st' := [.ref 0, .int (x18 + (4 : Int32))]) rfl ?_
  refine wpl_len rfl ?_
  refine wpl_icmp (a := 751) (b := 71) rfl (by decide) rfl rfl (wpl_br (p := (x18 + (4 : Int32)) < (Int32.ofNat N)) ⟨fun hc7 => ?_, fun hc7 => ?_⟩)
  · have h8 := h.1 hc7
    refine wpl_sl (n := 2) (pc' := 75) (ls' := [some (.ref 0), some (.int x1), some (.ref 1), some (.long x3), none, some (.long x5), none, some (.long x7), none, some (.long x9), none, some (.int x11), some (.int x12), some (.int x13), some (.int x14), some (.int x15), some (.int x16), some (.int x17), some (.int x18), none, none, none, none, none, none, none, none, none, none, none, none, none]) (st' := [.int (81 : Int32), .int x18]) rfl ?_
    refine wpl_icmp (a := 751) (b := 78) rfl (by decide) rfl rfl (wpl_br (p := x18 < (81 : Int32)) ⟨fun hc10 => ?_, fun hc10 => ?_⟩)
    · have h11 := h8.1 hc10
      refine wpl_sl (n := 2) (pc' := 81) (ls' := [some (.ref 0), some (.int x1), some (.ref 1), some (.long x3), none, some (.long x5), none, some (.long x7), none, some (.long x9), none, some (.int x11), some (.int x12), some (.int x13), some (.int x14), some (.int x15), some (.int x16), some (.int x17), some (.int x18), none, none, none, none, none, none, none, none, none, none, none, none, none]) (st' := [.int x18, .ref 0]) rfl ?_
      refine wpl_lda rfl h11.1 ?_
      have h13 := h11.2
      refine wpl_sl (n := 7) (pc' := 92) (ls' := [some (.ref 0), some (.int x1), some (.ref 1), some (.long x3), none, some (.long x5), none, some (.long x7), none, some (.long x9), none, some (.int x11), some (.int x12), some (.int x13), some (.int x14), some (.int x15), some (.int x16), some (.int x17), some (.int x18), some (.int ((sg (ix x18)) &&& (7 : Int32))), none, none, none, none, none, none, none, none, none, none, none, none]) (st' := [.int (x18 + (1 : Int32)), .ref 0]) rfl ?_
      refine wpl_lda rfl h13.1 ?_
      have h14 := h13.2
      refine wpl_sl (n := 7) (pc' := 102) (ls' := [some (.ref 0), some (.int x1), some (.ref 1), some (.long x3), none, some (.long x5), none, some (.long x7), none, some (.long x9), none, some (.int x11), some (.int x12), some (.int x13), some (.int x14), some (.int x15), some (.int x16), some (.int x17), some (.int x18), some (.int ((sg (ix x18)) &&& (7 : Int32))), some (.int ((sg (ix (x18 + (1 : Int32)))) &&& (1 : Int32))), none, none, none, none, none, none, none, none, none, none, none]) (st' := [.int (x18 + (2 : Int32)), .ref 0]) rfl ?_
      refine wpl_lda rfl h14.1 ?_
      have h15 := h14.2
      refine wpl_sl (n := 7) (pc' := 112) (ls' := [some (.ref 0), some (.int x1), some (.ref 1), some (.long x3), none, some (.long x5), none, some (.long x7), none, some (.long x9), none, some (.int x11), some (.int x12), some (.int x13), some (.int x14), some (.int x15), some (.int x16), some (.int x17), some (.int x18), some (.int ((sg (ix x18)) &&& (7 : Int32))), some (.int ((sg (ix (x18 + (1 : Int32)))) &&& (1 : Int32))), some (.int ((sg (ix (x18 + (2 : Int32)))) &&& (3 : Int32))), none, none, none, none, none, none, none, none, none, none]) (st' := [.int (x18 + (3 : Int32)), .ref 0]) rfl ?_
      refine wpl_lda rfl h15.1 ?_
      have h16 := h15.2
      refine wpl_sl (n := 7) (pc' := 122) (ls' := [some (.ref 0), some (.int x1), some (.ref 1), some (.long x3), none, some (.long x5), none, some (.long x7), none, some (.long x9), none, some (.int x11), some (.int x12), some (.int x13), some (.int x14), some (.int x15), some (.int x16), some (.int x17), some (.int x18), some (.int ((sg (ix x18)) &&& (7 : Int32))), some (.int ((sg (ix (x18 + (1 : Int32)))) &&& (1 : Int32))), some (.int ((sg (ix (x18 + (2 : Int32)))) &&& (3 : Int32))), some (.int ((sg (ix (x18 + (3 : Int32)))) &&& (3 : Int32))), none, none, none, none, none, none, none, none, none]) (st' := [.int (x18 + (4 : Int32)), .ref 0]) rfl ?_
      refine wpl_lda rfl h16.1 ?_
      have h17 := h16.2
      refine wpl_sl (n := 5) (pc' := 130) (ls' := [some (.ref 0), some (.int x1), some (.ref 1), some (.long x3), none, some (.long x5), none, some (.long x7), none, some (.long x9), none, some (.int x11), some (.int x12), some (.int x13), some (.int x14), some (.int x15), some (.int x16), some (.int x17), some (.int x18), some (.int ((sg (ix x18)) &&& (7 : Int32))), some (.int ((sg (ix (x18 + (1 : Int32)))) &&& (1 : Int32))), some (.int ((sg (ix (x18 + (2 : Int32)))) &&& (3 : Int32))), some (.int ((sg (ix (x18 + (3 : Int32)))) &&& (3 : Int32))), some (.int (sg (ix (x18 + (4 : Int32))))), none, none, none, none, none, none, none, none]) (st' := [.int (x18 + (1 : Int32)), .ref 0]) rfl ?_
      refine wpl_lda rfl h17.1 ?_
      have h18 := h17.2
      refine wpl_sl (n := 3) (pc' := 136) (ls' := [some (.ref 0), some (.int x1), some (.ref 1), some (.long x3), none, some (.long x5), none, some (.long x7), none, some (.long x9), none, some (.int x11), some (.int x12), some (.int x13), some (.int x14), some (.int x15), some (.int x16), some (.int x17), some (.int x18), some (.int ((sg (ix x18)) &&& (7 : Int32))), some (.int ((sg (ix (x18 + (1 : Int32)))) &&& (1 : Int32))), some (.int ((sg (ix (x18 + (2 : Int32)))) &&& (3 : Int32))), some (.int ((sg (ix (x18 + (3 : Int32)))) &&& (3 : Int32))), some (.int (sg (ix (x18 + (4 : Int32))))), none, none, none, none, none, none, none, none]) (st' := [.int (14 : Int32), .int ((sg (ix (x18 + (1 : Int32)))) &&& (14 : Int32))]) rfl ?_
      have hm20 : ∀ m19, m19 = (if ((sg (ix (x18 + (1 : Int32)))) &&& (14 : Int32)) = (14 : Int32) then (2 : Int32) else ((sg (ix (x18 + (1 : Int32)))) &&& (1 : Int32))) → wplI PP QQ (some (N, sg)) 0 lm0 142 [some (.ref 0), some (.int x1), some (.ref 1), some (.long x3), none, some (.long x5), none, some (.long x7), none, some (.long x9), none, some (.int x11), some (.int x12), some (.int x13), some (.int x14), some (.int x15), some (.int x16), some (.int x17), some (.int x18), some (.int ((sg (ix x18)) &&& (7 : Int32))), some (.int m19), some (.int ((sg (ix (x18 + (2 : Int32)))) &&& (3 : Int32))), some (.int ((sg (ix (x18 + (3 : Int32)))) &&& (3 : Int32))), some (.int (sg (ix (x18 + (4 : Int32))))), none, none, none, none, none, none, none, none] [] (W1 s) Q := by
        intro m19 em19
        have h21 := h18 m19 em19
        refine wpl_sl (n := 4) (pc' := 147) (ls' := [some (.ref 0), some (.int x1), some (.ref 1), some (.long x3), none, some (.long x5), none, some (.long x7), none, some (.long x9), none, some (.int x11), some (.int x12), some (.int x13), some (.int x14), some (.int x15), some (.int x16), some (.int x17), some (.int x18), some (.int ((sg (ix x18)) &&& (7 : Int32))), some (.int m19), some (.int ((sg (ix (x18 + (2 : Int32)))) &&& (3 : Int32))), some (.int ((sg (ix (x18 + (3 : Int32)))) &&& (3 : Int32))), some (.int (sg (ix (x18 + (4 : Int32))))), none, none, none, none, none, none, none, none]) (st' := [.int (x18 + (2 : Int32)), .ref 0]) rfl ?_
        refine wpl_lda rfl h21.1 ?_
        have h22 := h21.2
        refine wpl_sl (n := 3) (pc' := 153) (ls' := [some (.ref 0), some (.int x1), some (.ref 1), some (.long x3), none, some (.long x5), none, some (.long x7), none, some (.long x9), none, some (.int x11), some (.int x12), some (.int x13), some (.int x14), some (.int x15), some (.int x16), some (.int x17), some (.int x18), some (.int ((sg (ix x18)) &&& (7 : Int32))), some (.int m19), some (.int ((sg (ix (x18 + (2 : Int32)))) &&& (3 : Int32))), some (.int ((sg (ix (x18 + (3 : Int32)))) &&& (3 : Int32))), some (.int (sg (ix (x18 + (4 : Int32))))), none, none, none, none, none, none, none, none]) (st' := [.int (28 : Int32), .int ((sg (ix (x18 + (2 : Int32)))) &&& (28 : Int32))]) rfl ?_
        have hm24 : ∀ m23, m23 = (if ((sg (ix (x18 + (2 : Int32)))) &&& (28 : Int32)) = (28 : Int32) then (((sg (ix (x18 + (2 : Int32)))) &&& (3 : Int32)) + (8 : Int32)) else ((sg (ix (x18 + (2 : Int32)))) &&& (3 : Int32))) → wplI PP QQ (some (N, sg)) 0 lm0 163 [some (.ref 0), some (.int x1), some (.ref 1), some (.long x3), none, some (.long x5), none, some (.long x7), none, some (.long x9), none, some (.int x11), some (.int x12), some (.int x13), some (.int x14), some (.int x15), some (.int x16), some (.int x17), some (.int x18), some (.int ((sg (ix x18)) &&& (7 : Int32))), some (.int m19), some (.int m23), some (.int ((sg (ix (x18 + (3 : Int32)))) &&& (3 : Int32))), some (.int (sg (ix (x18 + (4 : Int32))))), none, none, none, none, none, none, none, none] [] (W1 s) Q := by
          intro m23 em23
          have h25 := h22 m23 em23
          refine wpl_sl (n := 6) (pc' := 172) (ls' := [some (.ref 0), some (.int x1), some (.ref 1), some (.long x3), none, some (.long x5), none, some (.long x7), none, some (.long x9), none, some (.int x11), some (.int x12), some (.int x13), some (.int x14), some (.int x15), some (.int x16), some (.int x17), some (.int x18), some (.int ((sg (ix x18)) &&& (7 : Int32))), some (.int m19), some (.int m23), some (.int ((sg (ix (x18 + (3 : Int32)))) &&& (3 : Int32))), some (.int (sg (ix (x18 + (4 : Int32))))), some (.int ((sg (ix (x18 + (3 : Int32)))) &&& (3 : Int32))), none, none, none, none, none, none, none]) (st' := [.int (x18 + (3 : Int32)), .ref 0]) rfl ?_
          refine wpl_lda rfl h25.1 ?_
          have h26 := h25.2
          refine wpl_sl (n := 3) (pc' := 178) (ls' := [some (.ref 0), some (.int x1), some (.ref 1), some (.long x3), none, some (.long x5), none, some (.long x7), none, some (.long x9), none, some (.int x11), some (.int x12), some (.int x13), some (.int x14), some (.int x15), some (.int x16), some (.int x17), some (.int x18), some (.int ((sg (ix x18)) &&& (7 : Int32))), some (.int m19), some (.int m23), some (.int ((sg (ix (x18 + (3 : Int32)))) &&& (3 : Int32))), some (.int (sg (ix (x18 + (4 : Int32))))), some (.int ((sg (ix (x18 + (3 : Int32)))) &&& (3 : Int32))), none, none, none, none, none, none, none]) (st' := [.int (28 : Int32), .int ((sg (ix (x18 + (3 : Int32)))) &&& (28 : Int32))]) rfl ?_
          have hm29 : ∀ m27, m27 = (if ((sg (ix (x18 + (3 : Int32)))) &&& (28 : Int32)) = (28 : Int32) then (((sg (ix (x18 + (3 : Int32)))) &&& (3 : Int32)) + (8 : Int32)) else ((sg (ix (x18 + (3 : Int32)))) &&& (3 : Int32))) → ∀ m28, m28 = (if ((sg (ix (x18 + (3 : Int32)))) &&& (28 : Int32)) = (28 : Int32) then (4 : Int32) else ((sg (ix (x18 + (3 : Int32)))) &&& (3 : Int32))) → wplI PP QQ (some (N, sg)) 0 lm0 191 [some (.ref 0), some (.int x1), some (.ref 1), some (.long x3), none, some (.long x5), none, some (.long x7), none, some (.long x9), none, some (.int x11), some (.int x12), some (.int x13), some (.int x14), some (.int x15), some (.int x16), some (.int x17), some (.int x18), some (.int ((sg (ix x18)) &&& (7 : Int32))), some (.int m19), some (.int m23), some (.int m27), some (.int (sg (ix (x18 + (4 : Int32))))), some (.int m28), none, none, none, none, none, none, none] [] (W1 s) Q := by
            intro m27 em27 m28 em28
            have h30 := h26 m27 em27 m28 em28
            refine wpl_sl (n := 2) (pc' := 194) (ls' := [some (.ref 0), some (.int x1), some (.ref 1), some (.long x3), none, some (.long x5), none, some (.long x7), none, some (.long x9), none, some (.int x11), some (.int x12), some (.int x13), some (.int x14), some (.int x15), some (.int x16), some (.int x17), some (.int x18), some (.int ((sg (ix x18)) &&& (7 : Int32))), some (.int m19), some (.int m23), some (.int m27), some (.int (sg (ix (x18 + (4 : Int32))))), some (.int m28), none, none, none, none, none, none, none]) (st' := [.int (2 : Int32), .int m19]) rfl ?_
            have hm32 : ∀ m31, m31 = (if m19 = (2 : Int32) then (-2 : Int32) else (if (3 : Int32) < m23 then (-3 : Int32) else x1)) → wplI PP QQ (some (N, sg)) 0 lm0 214 [some (.ref 0), some (.int x1), some (.ref 1), some (.long x3), none, some (.long x5), none, some (.long x7), none, some (.long x9), none, some (.int x11), some (.int x12), some (.int x13), some (.int x14), some (.int x15), some (.int x16), some (.int x17), some (.int x18), some (.int ((sg (ix x18)) &&& (7 : Int32))), some (.int m19), some (.int m23), some (.int m27), some (.int (sg (ix (x18 + (4 : Int32))))), some (.int m28), none, none, none, none, none, none, none] [.int m31] (W1 s) Q := by
              intro m31 em31
              have h33 := h30 m31 em31
              refine wpl_sl (n := 6) (pc' := 225) (ls' := [some (.ref 0), some (.int x1), some (.ref 1), some (.long x3), none, some (.long x5), none, some (.long x7), none, some (.long x9), none, some (.int x11), some (.int x12), some (.int x13), some (.int x14), some (.int x15), some (.int x16), some (.int x17), some (.int x18), some (.int ((sg (ix x18)) &&& (7 : Int32))), some (.int m19), some (.int m23), some (.int m27), some (.int (sg (ix (x18 + (4 : Int32))))), some (.int m28), some (.int m31), none, none, none, none, none, none]) (st' := [.int m23, .long x9, .long x7, .long x5, .long x3]) rfl ?_
              refine wpl_stat (m' := 4) (me' := lm4) (as := [.long x3, .long x5, .long x7, .long x9, .int m23]) (r := []) rfl rfl rfl rfl rfl ⟨(by first | decide | exact Nat.le_of_ble_eq_true rfl), (by first | decide | exact Nat.le_of_ble_eq_true rfl), (by first | decide | exact Nat.le_of_ble_eq_true rfl), (by first | decide | exact Nat.le_of_ble_eq_true rfl), rfl⟩ (lal_L (lalL.mono h33 fun v35 w34 hh => ?_))
              obtain ⟨s37, rfl, h36⟩ := hh
              refine wpl_sl (n := 6) (pc' := 238) (ls' := [some (.ref 0), some (.int x1), some (.ref 1), some (.long x3), none, some (.long x5), none, some (.long x7), none, some (.long x9), none, some (.int x11), some (.int x12), some (.int x13), some (.int x14), some (.int x15), some (.int x16), some (.int x17), some (.int x18), some (.int ((sg (ix x18)) &&& (7 : Int32))), some (.int m19), some (.int m23), some (.int m27), some (.int (sg (ix (x18 + (4 : Int32))))), some (.int m28), some (.int m31), some (.long v35), none, some (.int (-1 : Int32)), some (.int x1), none, none]) (st' := [.int ((sg (ix x18)) &&& (7 : Int32))]) rfl ?_
              refine wpl_if (a := 309) (b := 241) rfl (by decide) rfl rfl (wpl_br (p := ((sg (ix x18)) &&& (7 : Int32)) = (0 : Int32)) ⟨fun hc38 => ?_, fun hc38 => ?_⟩)
              · have h39 := h36.1 hc38
                refine wpl_sl (n := 2) (pc' := 244) (ls' := [some (.ref 0), some (.int x1), some (.ref 1), some (.long x3), none, some (.long x5), none, some (.long x7), none, some (.long x9), none, some (.int x11), some (.int x12), some (.int x13), some (.int x14), some (.int x15), some (.int x16), some (.int x17), some (.int x18), some (.int ((sg (ix x18)) &&& (7 : Int32))), some (.int m19), some (.int m23), some (.int m27), some (.int (sg (ix (x18 + (4 : Int32))))), some (.int m28), some (.int m31), some (.long v35), none, some (.int (-1 : Int32)), some (.int x1), none, none]) (st' := [.int x1, .int m31]) rfl ?_
                have hm42 : ∀ m41, m41 = (if m31 = x1 then (if (3 : Int32) < m28 then (-4 : Int32) else m31) else m31) → wplI PP QQ (some (N, sg)) 0 lm0 257 [some (.ref 0), some (.int x1), some (.ref 1), some (.long x3), none, some (.long x5), none, some (.long x7), none, some (.long x9), none, some (.int x11), some (.int x12), some (.int x13), some (.int x14), some (.int x15), some (.int x16), some (.int x17), some (.int x18), some (.int ((sg (ix x18)) &&& (7 : Int32))), some (.int m19), some (.int m23), some (.int m27), some (.int (sg (ix (x18 + (4 : Int32))))), some (.int m28), some (.int m41), some (.long v35), none, some (.int (-1 : Int32)), some (.int x1), none, none] [] (W1 s37) Q := by
                  intro m41 em41
                  have h43 := h39 m41 em41
                  refine wpl_sl (n := 4) (pc' := 264) (ls' := [some (.ref 0), some (.int x1), some (.ref 1), some (.long x3), none, some (.long x5), none, some (.long x7), none, some (.long x9), none, some (.int x11), some (.int x12), some (.int x13), some (.int x14), some (.int x15), some (.int x16), some (.int x17), some (.int x18), some (.int ((sg (ix x18)) &&& (7 : Int32))), some (.int m19), some (.int m23), some (.int m27), some (.int (sg (ix (x18 + (4 : Int32))))), some (.int m28), some (.int m41), some (.long v35), none, some (.int (-1 : Int32)), some (.int x1), none, none]) (st' := [.int m28, .int m23, .int m19, .ref 1]) rfl ?_
                  refine wpl_v1 (m' := 5) (me' := cm5) (as := [.int m19, .int m23, .int m28]) (r := []) rfl rfl rfl rfl rfl ⟨by decide, (by first | decide | exact Nat.le_of_ble_eq_true rfl), (by first | decide | exact Nat.le_of_ble_eq_true rfl), rfl⟩ (cal_I (calI.mono h43 fun v45 s44 h46 => ?_))
                  refine wpl_sl (n := 3) (pc' := 272) (ls' := [some (.ref 0), some (.int x1), some (.ref 1), some (.long x3), none, some (.long x5), none, some (.long x7), none, some (.long x9), none, some (.int x11), some (.int x12), some (.int x13), some (.int x14), some (.int x15), some (.int x16), some (.int x17), some (.int x18), some (.int ((sg (ix x18)) &&& (7 : Int32))), some (.int m19), some (.int m23), some (.int m27), some (.int (sg (ix (x18 + (4 : Int32))))), some (.int m28), some (.int m41), some (.long v35), none, some (.int (-1 : Int32)), some (.int v45), none, none]) (st' := [.int x1, .int m41]) rfl ?_
                  refine wpl_icmp (a := 575) (b := 275) rfl (by decide) rfl rfl (wpl_br (p := m41 = x1) ⟨fun hc47 => ?_, fun hc47 => ?_⟩)
                  · have h48 := h46.1 hc47
                    refine wpl_sl (n := 2) (pc' := 279) (ls' := [some (.ref 0), some (.int x1), some (.ref 1), some (.long x3), none, some (.long x5), none, some (.long x7), none, some (.long x9), none, some (.int x11), some (.int x12), some (.int x13), some (.int x14), some (.int x15), some (.int x16), some (.int x17), some (.int x18), some (.int ((sg (ix x18)) &&& (7 : Int32))), some (.int m19), some (.int m23), some (.int m27), some (.int (sg (ix (x18 + (4 : Int32))))), some (.int m28), some (.int m41), some (.long v35), none, some (.int (-1 : Int32)), some (.int v45), none, none]) (st' := [.int m28, .long v35]) rfl ?_
                    refine wpl_stat (m' := 2) (me' := lm2) (as := [.long v35, .int m28]) (r := []) rfl rfl rfl rfl rfl ⟨(by first | decide | exact Nat.le_of_ble_eq_true rfl), (by first | decide | exact Nat.le_of_ble_eq_true rfl), (by first | decide | exact Nat.le_of_ble_eq_true rfl), (by first | decide | exact Nat.le_of_ble_eq_true rfl), rfl⟩ (lal_I (lalI.mono h48 fun v51 w50 hh => ?_))
                    obtain ⟨s53, rfl, h52⟩ := hh
                    refine wpl_sl (n := 2) (pc' := 286) (ls' := [some (.ref 0), some (.int x1), some (.ref 1), some (.long x3), none, some (.long x5), none, some (.long x7), none, some (.long x9), none, some (.int x11), some (.int x12), some (.int x13), some (.int x14), some (.int x15), some (.int x16), some (.int x17), some (.int x18), some (.int ((sg (ix x18)) &&& (7 : Int32))), some (.int m19), some (.int m23), some (.int m27), some (.int (sg (ix (x18 + (4 : Int32))))), some (.int m28), some (.int v51), some (.long v35), none, some (.int (-1 : Int32)), some (.int v45), none, none]) (st' := [.int m19]) rfl ?_
                    have hm58 : ∀ m54, m54 = (if m19 = (0 : Int32) then (x12 + (1 : Int32)) else x12) → ∀ m55, m55 = (if m19 = (0 : Int32) then x13 else (x13 + (1 : Int32))) → ∀ m56, m56 = (if m19 = (0 : Int32) then v51 else x16) → ∀ m57, m57 = (if m19 = (0 : Int32) then x17 else v51) → wplI PP QQ (some (N, sg)) 0 lm0 575 [some (.ref 0), some (.int x1), some (.ref 1), some (.long x3), none, some (.long x5), none, some (.long x7), none, some (.long x9), none, some (.int x11), some (.int m54), some (.int m55), some (.int x14), some (.int x15), some (.int m56), some (.int m57), some (.int x18), some (.int ((sg (ix x18)) &&& (7 : Int32))), some (.int m19), some (.int m23), some (.int m27), some (.int (sg (ix (x18 + (4 : Int32))))), some (.int m28), some (.int v51), some (.long v35), none, some (.int (-1 : Int32)), some (.int v45), none, none] [] (W1 s53) Q := by
                      intro m54 em54 m55 em55 m56 em56 m57 em57
                      have h59 := h52 m54 em54 m55 em55 m56 em56 m57 em57
                      exact wpl_lle (ls := [some (.ref 0), some (.int x1), some (.ref 1), some (.long x3), none, some (.long x5), none, some (.long x7), none, some (.long x9), none, some (.int x11), some (.int m54), some (.int m55), some (.int x14), some (.int x15), some (.int m56), some (.int m57), some (.int x18), none, some (.int m19), none, none, none, none, some (.int v51), some (.long v35), none, some (.int (-1 : Int32)), some (.int v45), none, none]) ⟨rfl, rfl, rfl, rfl, rfl, rfl, rfl, rfl, rfl, rfl, rfl, rfl, rfl, rfl, rfl, rfl, rfl, rfl, rfl, rfl, trivial⟩ h59
                    refine wpl_if (a := 299) (b := 289) rfl (by decide) rfl rfl (wpl_br (p := m19 = (0 : Int32)) ⟨fun hc60 => ?_, fun hc60 => ?_⟩)
                    · refine wpl_sl (n := 4) (pc' := 575) (ls' := [some (.ref 0), some (.int x1), some (.ref 1), some (.long x3), none, some (.long x5), none, some (.long x7), none, some (.long x9), none, some (.int x11), some (.int (x12 + (1 : Int32))), some (.int x13), some (.int x14), some (.int x15), some (.int v51), some (.int x17), some (.int x18), some (.int ((sg (ix x18)) &&& (7 : Int32))), some (.int m19), some (.int m23), some (.int m27), some (.int (sg (ix (x18 + (4 : Int32))))), some (.int m28), some (.int v51), some (.long v35), none, some (.int (-1 : Int32)), some (.int v45), none, none]) (st' := []) rfl ?_
                      first | exact hm58 _ (by simp only [if_pos hc60]) _ (by simp only [if_pos hc60]) _ (by simp only [if_pos hc60]) _ (by simp only [if_pos hc60]) | exact wpl_lle (by repeat (first | exact trivial | refine ⟨rfl, ?_⟩)) (hm58 _ (by simp only [if_pos hc60]) _ (by simp only [if_pos hc60]) _ (by simp only [if_pos hc60]) _ (by simp only [if_pos hc60]))
                    · refine wpl_sl (n := 4) (pc' := 575) (ls' := [some (.ref 0), some (.int x1), some (.ref 1), some (.long x3), none, some (.long x5), none, some (.long x7), none, some (.long x9), none, some (.int x11), some (.int x12), some (.int (x13 + (1 : Int32))), some (.int x14), some (.int x15), some (.int x16), some (.int v51), some (.int x18), some (.int ((sg (ix x18)) &&& (7 : Int32))), some (.int m19), some (.int m23), some (.int m27), some (.int (sg (ix (x18 + (4 : Int32))))), some (.int m28), some (.int v51), some (.long v35), none, some (.int (-1 : Int32)), some (.int v45), none, none]) (st' := []) rfl ?_
                      first | exact hm58 _ (by simp only [if_neg hc60]) _ (by simp only [if_neg hc60]) _ (by simp only [if_neg hc60]) _ (by simp only [if_neg hc60]) | exact wpl_lle (by repeat (first | exact trivial | refine ⟨rfl, ?_⟩)) (hm58 _ (by simp only [if_neg hc60]) _ (by simp only [if_neg hc60]) _ (by simp only [if_neg hc60]) _ (by simp only [if_neg hc60]))
                  · have h49 := h46.2 hc47
                    exact wpl_lle (ls := [some (.ref 0), some (.int x1), some (.ref 1), some (.long x3), none, some (.long x5), none, some (.long x7), none, some (.long x9), none, some (.int x11), some (.int x12), some (.int x13), some (.int x14), some (.int x15), some (.int x16), some (.int x17), some (.int x18), none, some (.int m19), none, none, none, none, some (.int m41), some (.long v35), none, some (.int (-1 : Int32)), some (.int v45), none, none]) ⟨rfl, rfl, rfl, rfl, rfl, rfl, rfl, rfl, rfl, rfl, rfl, rfl, rfl, rfl, rfl, rfl, rfl, rfl, rfl, rfl, trivial⟩ h49
                refine wpl_icmp (a := 257) (b := 247) rfl (by decide) rfl rfl (wpl_br (p := m31 = x1) ⟨fun hc61 => ?_, fun hc61 => ?_⟩)
                · refine wpl_sl (n := 2) (pc' := 250) (ls' := [some (.ref 0), some (.int x1), some (.ref 1), some (.long x3), none, some (.long x5), none, some (.long x7), none, some (.long x9), none, some (.int x11), some (.int x12), some (.int x13), some (.int x14), some (.int x15), some (.int x16), some (.int x17), some (.int x18), some (.int ((sg (ix x18)) &&& (7 : Int32))), some (.int m19), some (.int m23), some (.int m27), some (.int (sg (ix (x18 + (4 : Int32))))), some (.int m28), some (.int m31), some (.long v35), none, some (.int (-1 : Int32)), some (.int x1), none, none]) (st' := [.int (3 : Int32), .int m28]) rfl ?_
                  refine wpl_icmp (a := 257) (b := 253) rfl (by decide) rfl rfl (wpl_br (p := (3 : Int32) < m28) ⟨fun hc62 => ?_, fun hc62 => ?_⟩)
                  · refine wpl_sl (n := 2) (pc' := 257) (ls' := [some (.ref 0), some (.int x1), some (.ref 1), some (.long x3), none, some (.long x5), none, some (.long x7), none, some (.long x9), none, some (.int x11), some (.int x12), some (.int x13), some (.int x14), some (.int x15), some (.int x16), some (.int x17), some (.int x18), some (.int ((sg (ix x18)) &&& (7 : Int32))), some (.int m19), some (.int m23), some (.int m27), some (.int (sg (ix (x18 + (4 : Int32))))), some (.int m28), some (.int (-4 : Int32)), some (.long v35), none, some (.int (-1 : Int32)), some (.int x1), none, none]) (st' := []) rfl ?_
                    first | exact hm42 _ (by simp only [if_pos hc61, if_pos hc62]) | exact wpl_lle (by repeat (first | exact trivial | refine ⟨rfl, ?_⟩)) (hm42 _ (by simp only [if_pos hc61, if_pos hc62]))
                  · first | exact hm42 _ (by simp only [if_pos hc61, if_neg hc62]) | exact wpl_lle (by repeat (first | exact trivial | refine ⟨rfl, ?_⟩)) (hm42 _ (by simp only [if_pos hc61, if_neg hc62]))
                · first | exact hm42 _ (by simp only [if_neg hc61]) | exact wpl_lle (by repeat (first | exact trivial | refine ⟨rfl, ?_⟩)) (hm42 _ (by simp only [if_neg hc61]))
              · have h40 := h36.2 hc38
                refine wpl_sl (n := 2) (pc' := 312) (ls' := [some (.ref 0), some (.int x1), some (.ref 1), some (.long x3), none, some (.long x5), none, some (.long x7), none, some (.long x9), none, some (.int x11), some (.int x12), some (.int x13), some (.int x14), some (.int x15), some (.int x16), some (.int x17), some (.int x18), some (.int ((sg (ix x18)) &&& (7 : Int32))), some (.int m19), some (.int m23), some (.int m27), some (.int (sg (ix (x18 + (4 : Int32))))), some (.int m28), some (.int m31), some (.long v35), none, some (.int (-1 : Int32)), some (.int x1), none, none]) (st' := [.int (1 : Int32), .int ((sg (ix x18)) &&& (7 : Int32))]) rfl ?_
                refine wpl_icmp (a := 322) (b := 315) rfl (by decide) rfl rfl (wpl_br (p := ((sg (ix x18)) &&& (7 : Int32)) = (1 : Int32)) ⟨fun hc63 => ?_, fun hc63 => ?_⟩)
                · have h64 := h40.1 hc63
                  exact wpl_lle (ls := [some (.ref 0), some (.int x1), some (.ref 1), some (.long x3), none, some (.long x5), none, some (.long x7), none, some (.long x9), none, some (.int x11), some (.int x12), some (.int x13), some (.int x14), some (.int x15), some (.int x16), some (.int x17), some (.int x18), none, some (.int m19), some (.int m23), none, some (.int (sg (ix (x18 + (4 : Int32))))), some (.int m28), some (.int m31), some (.long v35), none, some (.int (-1 : Int32)), none, none, none]) ⟨rfl, rfl, rfl, rfl, rfl, rfl, rfl, rfl, rfl, rfl, rfl, rfl, rfl, rfl, rfl, rfl, rfl, rfl, rfl, rfl, rfl, rfl, trivial⟩ h64
                · have h65 := h40.2 hc63
                  refine wpl_sl (n := 2) (pc' := 319) (ls' := [some (.ref 0), some (.int x1), some (.ref 1), some (.long x3), none, some (.long x5), none, some (.long x7), none, some (.long x9), none, some (.int x11), some (.int x12), some (.int x13), some (.int x14), some (.int x15), some (.int x16), some (.int x17), some (.int x18), some (.int ((sg (ix x18)) &&& (7 : Int32))), some (.int m19), some (.int m23), some (.int m27), some (.int (sg (ix (x18 + (4 : Int32))))), some (.int m28), some (.int m31), some (.long v35), none, some (.int (-1 : Int32)), some (.int x1), none, none]) (st' := [.int (7 : Int32), .int ((sg (ix x18)) &&& (7 : Int32))]) rfl ?_
                  refine wpl_icmp (a := 376) (b := 322) rfl (by decide) rfl rfl (wpl_br (p := ((sg (ix x18)) &&& (7 : Int32)) = (7 : Int32)) ⟨fun hc66 => ?_, fun hc66 => ?_⟩)
                  · have h67 := h65.1 hc66
                    exact wpl_lle (ls := [some (.ref 0), some (.int x1), some (.ref 1), some (.long x3), none, some (.long x5), none, some (.long x7), none, some (.long x9), none, some (.int x11), some (.int x12), some (.int x13), some (.int x14), some (.int x15), some (.int x16), some (.int x17), some (.int x18), none, some (.int m19), some (.int m23), none, some (.int (sg (ix (x18 + (4 : Int32))))), some (.int m28), some (.int m31), some (.long v35), none, some (.int (-1 : Int32)), none, none, none]) ⟨rfl, rfl, rfl, rfl, rfl, rfl, rfl, rfl, rfl, rfl, rfl, rfl, rfl, rfl, rfl, rfl, rfl, rfl, rfl, rfl, rfl, rfl, trivial⟩ h67
                  · have h68 := h65.2 hc66
                    refine wpl_sl (n := 2) (pc' := 379) (ls' := [some (.ref 0), some (.int x1), some (.ref 1), some (.long x3), none, some (.long x5), none, some (.long x7), none, some (.long x9), none, some (.int x11), some (.int x12), some (.int x13), some (.int x14), some (.int x15), some (.int x16), some (.int x17), some (.int x18), some (.int ((sg (ix x18)) &&& (7 : Int32))), some (.int m19), some (.int m23), some (.int m27), some (.int (sg (ix (x18 + (4 : Int32))))), some (.int m28), some (.int m31), some (.long v35), none, some (.int (-1 : Int32)), some (.int x1), none, none]) (st' := [.int (2 : Int32), .int ((sg (ix x18)) &&& (7 : Int32))]) rfl ?_
                    refine wpl_icmp (a := 438) (b := 382) rfl (by decide) rfl rfl (wpl_br (p := ((sg (ix x18)) &&& (7 : Int32)) = (2 : Int32)) ⟨fun hc69 => ?_, fun hc69 => ?_⟩)
                    · have h70 := h68.1 hc69
                      refine wpl_sl (n := 4) (pc' := 389) (ls' := [some (.ref 0), some (.int x1), some (.ref 1), some (.long x3), none, some (.long x5), none, some (.long x7), none, some (.long x9), none, some (.int x11), some (.int x12), some (.int x13), some (.int x14), some (.int x15), some (.int x16), some (.int x17), some (.int x18), some (.int ((sg (ix x18)) &&& (7 : Int32))), some (.int m19), some (.int m23), some (.int m27), some (.int (sg (ix (x18 + (4 : Int32))))), some (.int m28), some (.int m31), some (.long v35), none, some (.int (-1 : Int32)), some (.int x1), none, none]) (st' := [.int (sg (ix (x18 + (4 : Int32)))), .int m23, .int m19, .ref 1]) rfl ?_
                      refine wpl_v1 (m' := 7) (me' := cm7) (as := [.int m19, .int m23, .int (sg (ix (x18 + (4 : Int32))))]) (r := []) rfl rfl rfl rfl rfl ⟨by decide, (by first | decide | exact Nat.le_of_ble_eq_true rfl), (by first | decide | exact Nat.le_of_ble_eq_true rfl), rfl⟩ (cal_I (calI.mono h70 fun v73 s72 h74 => ?_))
                      refine wpl_sl (n := 8) (pc' := 406) (ls' := [some (.ref 0), some (.int x1), some (.ref 1), some (.long x3), none, some (.long x5), none, some (.long x7), none, some (.long x9), none, some (.int x11), some (.int x12), some (.int x13), some (.int x14), some (.int x15), some (.int x16), some (.int x17), some (.int x18), some (.int ((sg (ix x18)) &&& (7 : Int32))), some (.int m19), some (.int m23), some (.int m27), some (.int (sg (ix (x18 + (4 : Int32))))), some (.int m28), some (.int m31), some (.long v35), none, some (.int (-1 : Int32)), some (.int v73), some (.long ((Int32.toInt64 (sg (ix (x18 + (4 : Int32))))) &&& (65535 : Int64))), none]) (st' := [.int x1, .int m31]) rfl ?_
                      have hm77 : ∀ m75, m75 = (if m31 = x1 then (((((Int32.toInt64 (sg (ix (x18 + (4 : Int32))))) &&& (65535 : Int64)) ||| (((Int32.toInt64 (sg (ix (x18 + (4 : Int32))))) &&& (65535 : Int64)) <<< (((16 : Int32)).toInt64 &&& 63))) ||| (((Int32.toInt64 (sg (ix (x18 + (4 : Int32))))) &&& (65535 : Int64)) <<< (((32 : Int32)).toInt64 &&& 63))) ||| (((Int32.toInt64 (sg (ix (x18 + (4 : Int32))))) &&& (65535 : Int64)) <<< (((48 : Int32)).toInt64 &&& 63))) else v35) → ∀ m76, m76 = (if m31 = x1 then m23 else (-1 : Int32)) → wplI PP QQ (some (N, sg)) 0 lm0 435 [some (.ref 0), some (.int x1), some (.ref 1), some (.long x3), none, some (.long x5), none, some (.long x7), none, some (.long x9), none, some (.int x11), some (.int x12), some (.int x13), some (.int x14), some (.int x15), some (.int x16), some (.int x17), some (.int x18), some (.int ((sg (ix x18)) &&& (7 : Int32))), some (.int m19), some (.int m23), some (.int m27), some (.int (sg (ix (x18 + (4 : Int32))))), some (.int m28), some (.int m31), some (.long m75), none, some (.int m76), some (.int v73), some (.long ((Int32.toInt64 (sg (ix (x18 + (4 : Int32))))) &&& (65535 : Int64))), none] [] (W1 s72) Q := by
                        intro m75 em75 m76 em76
                        have h78 := h74 m75 em75 m76 em76
                        refine wpl_sl (n := 1) (pc' := 575) (ls' := [some (.ref 0), some (.int x1), some (.ref 1), some (.long x3), none, some (.long x5), none, some (.long x7), none, some (.long x9), none, some (.int x11), some (.int x12), some (.int x13), some (.int x14), some (.int x15), some (.int x16), some (.int x17), some (.int x18), some (.int ((sg (ix x18)) &&& (7 : Int32))), some (.int m19), some (.int m23), some (.int m27), some (.int (sg (ix (x18 + (4 : Int32))))), some (.int m28), some (.int m31), some (.long m75), none, some (.int m76), some (.int v73), some (.long ((Int32.toInt64 (sg (ix (x18 + (4 : Int32))))) &&& (65535 : Int64))), none]) (st' := []) rfl ?_
                        exact wpl_lle (ls := [some (.ref 0), some (.int x1), some (.ref 1), some (.long x3), none, some (.long x5), none, some (.long x7), none, some (.long x9), none, some (.int x11), some (.int x12), some (.int x13), some (.int x14), some (.int x15), some (.int x16), some (.int x17), some (.int x18), none, some (.int m19), none, none, none, none, some (.int m31), some (.long m75), none, some (.int m76), some (.int v73), none, none]) ⟨rfl, rfl, rfl, rfl, rfl, rfl, rfl, rfl, rfl, rfl, rfl, rfl, rfl, rfl, rfl, rfl, rfl, rfl, rfl, rfl, trivial⟩ h78
                      refine wpl_icmp (a := 435) (b := 409) rfl (by decide) rfl rfl (wpl_br (p := m31 = x1) ⟨fun hc79 => ?_, fun hc79 => ?_⟩)
                      · refine wpl_sl (n := 16) (pc' := 435) (ls' := [some (.ref 0), some (.int x1), some (.ref 1), some (.long x3), none, some (.long x5), none, some (.long x7), none, some (.long x9), none, some (.int x11), some (.int x12), some (.int x13), some (.int x14), some (.int x15), some (.int x16), some (.int x17), some (.int x18), some (.int ((sg (ix x18)) &&& (7 : Int32))), some (.int m19), some (.int m23), some (.int m27), some (.int (sg (ix (x18 + (4 : Int32))))), some (.int m28), some (.int m31), some (.long (((((Int32.toInt64 (sg (ix (x18 + (4 : Int32))))) &&& (65535 : Int64)) ||| (((Int32.toInt64 (sg (ix (x18 + (4 : Int32))))) &&& (65535 : Int64)) <<< (((16 : Int32)).toInt64 &&& 63))) ||| (((Int32.toInt64 (sg (ix (x18 + (4 : Int32))))) &&& (65535 : Int64)) <<< (((32 : Int32)).toInt64 &&& 63))) ||| (((Int32.toInt64 (sg (ix (x18 + (4 : Int32))))) &&& (65535 : Int64)) <<< (((48 : Int32)).toInt64 &&& 63)))), none, some (.int m23), some (.int v73), some (.long ((Int32.toInt64 (sg (ix (x18 + (4 : Int32))))) &&& (65535 : Int64))), none]) (st' := []) rfl ?_
                        first | exact hm77 _ (by simp only [if_pos hc79]) _ (by simp only [if_pos hc79]) | exact wpl_lle (by repeat (first | exact trivial | refine ⟨rfl, ?_⟩)) (hm77 _ (by simp only [if_pos hc79]) _ (by simp only [if_pos hc79]))
                      · first | exact hm77 _ (by simp only [if_neg hc79]) _ (by simp only [if_neg hc79]) | exact wpl_lle (by repeat (first | exact trivial | refine ⟨rfl, ?_⟩)) (hm77 _ (by simp only [if_neg hc79]) _ (by simp only [if_neg hc79]))
                    · have h71 := h68.2 hc69
                      refine wpl_sl (n := 2) (pc' := 441) (ls' := [some (.ref 0), some (.int x1), some (.ref 1), some (.long x3), none, some (.long x5), none, some (.long x7), none, some (.long x9), none, some (.int x11), some (.int x12), some (.int x13), some (.int x14), some (.int x15), some (.int x16), some (.int x17), some (.int x18), some (.int ((sg (ix x18)) &&& (7 : Int32))), some (.int m19), some (.int m23), some (.int m27), some (.int (sg (ix (x18 + (4 : Int32))))), some (.int m28), some (.int m31), some (.long v35), none, some (.int (-1 : Int32)), some (.int x1), none, none]) (st' := [.int (3 : Int32), .int ((sg (ix x18)) &&& (7 : Int32))]) rfl ?_
                      refine wpl_icmp (a := 499) (b := 444) rfl (by decide) rfl rfl (wpl_br (p := ((sg (ix x18)) &&& (7 : Int32)) = (3 : Int32)) ⟨fun hc80 => ?_, fun hc80 => ?_⟩)
                      · have h81 := h71.1 hc80
                        refine wpl_sl (n := 2) (pc' := 447) (ls' := [some (.ref 0), some (.int x1), some (.ref 1), some (.long x3), none, some (.long x5), none, some (.long x7), none, some (.long x9), none, some (.int x11), some (.int x12), some (.int x13), some (.int x14), some (.int x15), some (.int x16), some (.int x17), some (.int x18), some (.int ((sg (ix x18)) &&& (7 : Int32))), some (.int m19), some (.int m23), some (.int m27), some (.int (sg (ix (x18 + (4 : Int32))))), some (.int m28), some (.int m31), some (.long v35), none, some (.int (-1 : Int32)), some (.int x1), none, none]) (st' := [.int x1, .int m31]) rfl ?_
                        have hm84 : ∀ m83, m83 = (if m31 = x1 then (if (3 : Int32) < m27 then (-3 : Int32) else m31) else m31) → wplI PP QQ (some (N, sg)) 0 lm0 460 [some (.ref 0), some (.int x1), some (.ref 1), some (.long x3), none, some (.long x5), none, some (.long x7), none, some (.long x9), none, some (.int x11), some (.int x12), some (.int x13), some (.int x14), some (.int x15), some (.int x16), some (.int x17), some (.int x18), some (.int ((sg (ix x18)) &&& (7 : Int32))), some (.int m19), some (.int m23), some (.int m27), some (.int (sg (ix (x18 + (4 : Int32))))), some (.int m28), some (.int m83), some (.long v35), none, some (.int (-1 : Int32)), some (.int x1), none, none] [] (W1 s37) Q := by
                          intro m83 em83
                          have h85 := h81 m83 em83
                          refine wpl_sl (n := 4) (pc' := 467) (ls' := [some (.ref 0), some (.int x1), some (.ref 1), some (.long x3), none, some (.long x5), none, some (.long x7), none, some (.long x9), none, some (.int x11), some (.int x12), some (.int x13), some (.int x14), some (.int x15), some (.int x16), some (.int x17), some (.int x18), some (.int ((sg (ix x18)) &&& (7 : Int32))), some (.int m19), some (.int m23), some (.int m27), some (.int (sg (ix (x18 + (4 : Int32))))), some (.int m28), some (.int m83), some (.long v35), none, some (.int (-1 : Int32)), some (.int x1), none, none]) (st' := [.int m27, .int m23, .int m19, .ref 1]) rfl ?_
                          refine wpl_v1 (m' := 8) (me' := cm8) (as := [.int m19, .int m23, .int m27]) (r := []) rfl rfl rfl rfl rfl ⟨by decide, (by first | decide | exact Nat.le_of_ble_eq_true rfl), (by first | decide | exact Nat.le_of_ble_eq_true rfl), rfl⟩ (cal_I (calI.mono h85 fun v87 s86 h88 => ?_))
                          refine wpl_sl (n := 3) (pc' := 475) (ls' := [some (.ref 0), some (.int x1), some (.ref 1), some (.long x3), none, some (.long x5), none, some (.long x7), none, some (.long x9), none, some (.int x11), some (.int x12), some (.int x13), some (.int x14), some (.int x15), some (.int x16), some (.int x17), some (.int x18), some (.int ((sg (ix x18)) &&& (7 : Int32))), some (.int m19), some (.int m23), some (.int m27), some (.int (sg (ix (x18 + (4 : Int32))))), some (.int m28), some (.int m83), some (.long v35), none, some (.int (-1 : Int32)), some (.int v87), none, none]) (st' := [.int x1, .int m83]) rfl ?_
                          have hm92 : ∀ m89, m89 = (if m83 = x1 then (if m19 = (0 : Int32) then (x12 + (1 : Int32)) else x12) else x12) → ∀ m90, m90 = (if m83 = x1 then (if m19 = (0 : Int32) then x13 else (x13 + (1 : Int32))) else x13) → ∀ m91, m91 = (if m83 = x1 then m27 else (-1 : Int32)) → wplI PP QQ (some (N, sg)) 0 lm0 575 [some (.ref 0), some (.int x1), some (.ref 1), some (.long x3), none, some (.long x5), none, some (.long x7), none, some (.long x9), none, some (.int x11), some (.int m89), some (.int m90), some (.int x14), some (.int x15), some (.int x16), some (.int x17), some (.int x18), some (.int ((sg (ix x18)) &&& (7 : Int32))), some (.int m19), some (.int m23), some (.int m27), some (.int (sg (ix (x18 + (4 : Int32))))), some (.int m28), some (.int m83), some (.long v35), none, some (.int m91), some (.int v87), none, none] [] (W1 s86) Q := by
                            intro m89 em89 m90 em90 m91 em91
                            have h93 := h88 m89 em89 m90 em90 m91 em91
                            exact wpl_lle (ls := [some (.ref 0), some (.int x1), some (.ref 1), some (.long x3), none, some (.long x5), none, some (.long x7), none, some (.long x9), none, some (.int x11), some (.int m89), some (.int m90), some (.int x14), some (.int x15), some (.int x16), some (.int x17), some (.int x18), none, some (.int m19), none, none, none, none, some (.int m83), some (.long v35), none, some (.int m91), some (.int v87), none, none]) ⟨rfl, rfl, rfl, rfl, rfl, rfl, rfl, rfl, rfl, rfl, rfl, rfl, rfl, rfl, rfl, rfl, rfl, rfl, rfl, rfl, trivial⟩ h93
                          refine wpl_icmp (a := 575) (b := 478) rfl (by decide) rfl rfl (wpl_br (p := m83 = x1) ⟨fun hc94 => ?_, fun hc94 => ?_⟩)
                          · refine wpl_sl (n := 3) (pc' := 484) (ls' := [some (.ref 0), some (.int x1), some (.ref 1), some (.long x3), none, some (.long x5), none, some (.long x7), none, some (.long x9), none, some (.int x11), some (.int x12), some (.int x13), some (.int x14), some (.int x15), some (.int x16), some (.int x17), some (.int x18), some (.int ((sg (ix x18)) &&& (7 : Int32))), some (.int m19), some (.int m23), some (.int m27), some (.int (sg (ix (x18 + (4 : Int32))))), some (.int m28), some (.int m83), some (.long v35), none, some (.int m27), some (.int v87), none, none]) (st' := [.int m19]) rfl ?_
                            refine wpl_if (a := 493) (b := 487) rfl (by decide) rfl rfl (wpl_br (p := m19 = (0 : Int32)) ⟨fun hc95 => ?_, fun hc95 => ?_⟩)
                            · refine wpl_sl (n := 2) (pc' := 575) (ls' := [some (.ref 0), some (.int x1), some (.ref 1), some (.long x3), none, some (.long x5), none, some (.long x7), none, some (.long x9), none, some (.int x11), some (.int (x12 + (1 : Int32))), some (.int x13), some (.int x14), some (.int x15), some (.int x16), some (.int x17), some (.int x18), some (.int ((sg (ix x18)) &&& (7 : Int32))), some (.int m19), some (.int m23), some (.int m27), some (.int (sg (ix (x18 + (4 : Int32))))), some (.int m28), some (.int m83), some (.long v35), none, some (.int m27), some (.int v87), none, none]) (st' := []) rfl ?_
                              first | exact hm92 _ (by simp only [if_pos hc94, if_pos hc95]) _ (by simp only [if_pos hc94, if_pos hc95]) _ (by simp only [if_pos hc94, if_pos hc95]) | exact wpl_lle (by repeat (first | exact trivial | refine ⟨rfl, ?_⟩)) (hm92 _ (by simp only [if_pos hc94, if_pos hc95]) _ (by simp only [if_pos hc94, if_pos hc95]) _ (by simp only [if_pos hc94, if_pos hc95]))
                            · refine wpl_sl (n := 2) (pc' := 575) (ls' := [some (.ref 0), some (.int x1), some (.ref 1), some (.long x3), none, some (.long x5), none, some (.long x7), none, some (.long x9), none, some (.int x11), some (.int x12), some (.int (x13 + (1 : Int32))), some (.int x14), some (.int x15), some (.int x16), some (.int x17), some (.int x18), some (.int ((sg (ix x18)) &&& (7 : Int32))), some (.int m19), some (.int m23), some (.int m27), some (.int (sg (ix (x18 + (4 : Int32))))), some (.int m28), some (.int m83), some (.long v35), none, some (.int m27), some (.int v87), none, none]) (st' := []) rfl ?_
                              first | exact hm92 _ (by simp only [if_pos hc94, if_neg hc95]) _ (by simp only [if_pos hc94, if_neg hc95]) _ (by simp only [if_pos hc94, if_neg hc95]) | exact wpl_lle (by repeat (first | exact trivial | refine ⟨rfl, ?_⟩)) (hm92 _ (by simp only [if_pos hc94, if_neg hc95]) _ (by simp only [if_pos hc94, if_neg hc95]) _ (by simp only [if_pos hc94, if_neg hc95]))
                          · first | exact hm92 _ (by simp only [if_neg hc94]) _ (by simp only [if_neg hc94]) _ (by simp only [if_neg hc94]) | exact wpl_lle (by repeat (first | exact trivial | refine ⟨rfl, ?_⟩)) (hm92 _ (by simp only [if_neg hc94]) _ (by simp only [if_neg hc94]) _ (by simp only [if_neg hc94]))
                        refine wpl_icmp (a := 460) (b := 450) rfl (by decide) rfl rfl (wpl_br (p := m31 = x1) ⟨fun hc96 => ?_, fun hc96 => ?_⟩)
                        · refine wpl_sl (n := 2) (pc' := 453) (ls' := [some (.ref 0), some (.int x1), some (.ref 1), some (.long x3), none, some (.long x5), none, some (.long x7), none, some (.long x9), none, some (.int x11), some (.int x12), some (.int x13), some (.int x14), some (.int x15), some (.int x16), some (.int x17), some (.int x18), some (.int ((sg (ix x18)) &&& (7 : Int32))), some (.int m19), some (.int m23), some (.int m27), some (.int (sg (ix (x18 + (4 : Int32))))), some (.int m28), some (.int m31), some (.long v35), none, some (.int (-1 : Int32)), some (.int x1), none, none]) (st' := [.int (3 : Int32), .int m27]) rfl ?_
                          refine wpl_icmp (a := 460) (b := 456) rfl (by decide) rfl rfl (wpl_br (p := (3 : Int32) < m27) ⟨fun hc97 => ?_, fun hc97 => ?_⟩)
                          · refine wpl_sl (n := 2) (pc' := 460) (ls' := [some (.ref 0), some (.int x1), some (.ref 1), some (.long x3), none, some (.long x5), none, some (.long x7), none, some (.long x9), none, some (.int x11), some (.int x12), some (.int x13), some (.int x14), some (.int x15), some (.int x16), some (.int x17), some (.int x18), some (.int ((sg (ix x18)) &&& (7 : Int32))), some (.int m19), some (.int m23), some (.int m27), some (.int (sg (ix (x18 + (4 : Int32))))), some (.int m28), some (.int (-3 : Int32)), some (.long v35), none, some (.int (-1 : Int32)), some (.int x1), none, none]) (st' := []) rfl ?_
                            first | exact hm84 _ (by simp only [if_pos hc96, if_pos hc97]) | exact wpl_lle (by repeat (first | exact trivial | refine ⟨rfl, ?_⟩)) (hm84 _ (by simp only [if_pos hc96, if_pos hc97]))
                          · first | exact hm84 _ (by simp only [if_pos hc96, if_neg hc97]) | exact wpl_lle (by repeat (first | exact trivial | refine ⟨rfl, ?_⟩)) (hm84 _ (by simp only [if_pos hc96, if_neg hc97]))
                        · first | exact hm84 _ (by simp only [if_neg hc96]) | exact wpl_lle (by repeat (first | exact trivial | refine ⟨rfl, ?_⟩)) (hm84 _ (by simp only [if_neg hc96]))
                      · have h82 := h71.2 hc80
                        refine wpl_sl (n := 2) (pc' := 502) (ls' := [some (.ref 0), some (.int x1), some (.ref 1), some (.long x3), none, some (.long x5), none, some (.long x7), none, some (.long x9), none, some (.int x11), some (.int x12), some (.int x13), some (.int x14), some (.int x15), some (.int x16), some (.int x17), some (.int x18), some (.int ((sg (ix x18)) &&& (7 : Int32))), some (.int m19), some (.int m23), some (.int m27), some (.int (sg (ix (x18 + (4 : Int32))))), some (.int m28), some (.int m31), some (.long v35), none, some (.int (-1 : Int32)), some (.int x1), none, none]) (st' := [.int (4 : Int32), .int ((sg (ix x18)) &&& (7 : Int32))]) rfl ?_
                        refine wpl_icmp (a := 517) (b := 505) rfl (by decide) rfl rfl (wpl_br (p := ((sg (ix x18)) &&& (7 : Int32)) = (4 : Int32)) ⟨fun hc98 => ?_, fun hc98 => ?_⟩)
                        · have h99 := h82.1 hc98
                          refine wpl_sl (n := 2) (pc' := 508) (ls' := [some (.ref 0), some (.int x1), some (.ref 1), some (.long x3), none, some (.long x5), none, some (.long x7), none, some (.long x9), none, some (.int x11), some (.int x12), some (.int x13), some (.int x14), some (.int x15), some (.int x16), some (.int x17), some (.int x18), some (.int ((sg (ix x18)) &&& (7 : Int32))), some (.int m19), some (.int m23), some (.int m27), some (.int (sg (ix (x18 + (4 : Int32))))), some (.int m28), some (.int m31), some (.long v35), none, some (.int (-1 : Int32)), some (.int x1), none, none]) (st' := [.int (sg (ix (x18 + (4 : Int32)))), .ref 1]) rfl ?_
                          refine wpl_v1 (m' := 9) (me' := cm9) (as := [.int (sg (ix (x18 + (4 : Int32))))]) (r := []) rfl rfl rfl rfl rfl ⟨by decide, (by first | decide | exact Nat.le_of_ble_eq_true rfl), (by first | decide | exact Nat.le_of_ble_eq_true rfl), rfl⟩ (cal_V (calV.mono h99 fun s101 h103 => ?_))
                          refine wpl_sl (n := 3) (pc' := 575) (ls' := [some (.ref 0), some (.int x1), some (.ref 1), some (.long x3), none, some (.long x5), none, some (.long x7), none, some (.long x9), none, some (.int x11), some (.int x12), some (.int x13), some (.int x14), some (.int x15), some (.int x16), some (.int x17), some (.int x18), some (.int ((sg (ix x18)) &&& (7 : Int32))), some (.int m19), some (.int m23), some (.int m27), some (.int (sg (ix (x18 + (4 : Int32))))), some (.int m28), some (.int x1), some (.long v35), none, some (.int (-1 : Int32)), some (.int x1), none, none]) (st' := []) rfl ?_
                          exact wpl_lle (ls := [some (.ref 0), some (.int x1), some (.ref 1), some (.long x3), none, some (.long x5), none, some (.long x7), none, some (.long x9), none, some (.int x11), some (.int x12), some (.int x13), some (.int x14), some (.int x15), some (.int x16), some (.int x17), some (.int x18), none, some (.int m19), none, none, none, none, some (.int x1), some (.long v35), none, some (.int (-1 : Int32)), some (.int x1), none, none]) ⟨rfl, rfl, rfl, rfl, rfl, rfl, rfl, rfl, rfl, rfl, rfl, rfl, rfl, rfl, rfl, rfl, rfl, rfl, rfl, rfl, trivial⟩ h103
                        · have h100 := h82.2 hc98
                          refine wpl_sl (n := 2) (pc' := 520) (ls' := [some (.ref 0), some (.int x1), some (.ref 1), some (.long x3), none, some (.long x5), none, some (.long x7), none, some (.long x9), none, some (.int x11), some (.int x12), some (.int x13), some (.int x14), some (.int x15), some (.int x16), some (.int x17), some (.int x18), some (.int ((sg (ix x18)) &&& (7 : Int32))), some (.int m19), some (.int m23), some (.int m27), some (.int (sg (ix (x18 + (4 : Int32))))), some (.int m28), some (.int m31), some (.long v35), none, some (.int (-1 : Int32)), some (.int x1), none, none]) (st' := [.int (5 : Int32), .int ((sg (ix x18)) &&& (7 : Int32))]) rfl ?_
                          refine wpl_icmp (a := 565) (b := 523) rfl (by decide) rfl rfl (wpl_br (p := ((sg (ix x18)) &&& (7 : Int32)) = (5 : Int32)) ⟨fun hc104 => ?_, fun hc104 => ?_⟩)
                          · have h105 := h100.1 hc104
                            refine wpl_sl (n := 2) (pc' := 526) (ls' := [some (.ref 0), some (.int x1), some (.ref 1), some (.long x3), none, some (.long x5), none, some (.long x7), none, some (.long x9), none, some (.int x11), some (.int x12), some (.int x13), some (.int x14), some (.int x15), some (.int x16), some (.int x17), some (.int x18), some (.int ((sg (ix x18)) &&& (7 : Int32))), some (.int m19), some (.int m23), some (.int m27), some (.int (sg (ix (x18 + (4 : Int32))))), some (.int m28), some (.int m31), some (.long v35), none, some (.int (-1 : Int32)), some (.int x1), none, none]) (st' := [.int (3 : Int32), .int m23]) rfl ?_
                            have hm108 : ∀ m107, m107 = (if (3 : Int32) < m23 then (-3 : Int32) else x1) → wplI PP QQ (some (N, sg)) 0 lm0 535 [some (.ref 0), some (.int x1), some (.ref 1), some (.long x3), none, some (.long x5), none, some (.long x7), none, some (.long x9), none, some (.int x11), some (.int x12), some (.int x13), some (.int x14), some (.int x15), some (.int x16), some (.int x17), some (.int x18), some (.int ((sg (ix x18)) &&& (7 : Int32))), some (.int m19), some (.int m23), some (.int m27), some (.int (sg (ix (x18 + (4 : Int32))))), some (.int m28), some (.int m31), some (.long v35), none, some (.int (-1 : Int32)), some (.int x1), none, none] [.int m107] (W1 s37) Q := by
                              intro m107 em107
                              have h109 := h105 m107 em107
                              refine wpl_sl (n := 3) (pc' := 540) (ls' := [some (.ref 0), some (.int x1), some (.ref 1), some (.long x3), none, some (.long x5), none, some (.long x7), none, some (.long x9), none, some (.int x11), some (.int x12), some (.int x13), some (.int x14), some (.int x15), some (.int x16), some (.int x17), some (.int x18), some (.int ((sg (ix x18)) &&& (7 : Int32))), some (.int m19), some (.int m23), some (.int m27), some (.int (sg (ix (x18 + (4 : Int32))))), some (.int m28), some (.int m107), some (.long v35), none, some (.int (-1 : Int32)), some (.int x1), none, none]) (st' := [.int m23, .ref 1]) rfl ?_
                              refine wpl_v1 (m' := 10) (me' := cm10) (as := [.int m23]) (r := []) rfl rfl rfl rfl rfl ⟨by decide, (by first | decide | exact Nat.le_of_ble_eq_true rfl), (by first | decide | exact Nat.le_of_ble_eq_true rfl), rfl⟩ (cal_I (calI.mono h109 fun v111 s110 h112 => ?_))
                              refine wpl_sl (n := 1) (pc' := 545) (ls' := [some (.ref 0), some (.int x1), some (.ref 1), some (.long x3), none, some (.long x5), none, some (.long x7), none, some (.long x9), none, some (.int x11), some (.int x12), some (.int x13), some (.int x14), some (.int x15), some (.int x16), some (.int x17), some (.int x18), some (.int ((sg (ix x18)) &&& (7 : Int32))), some (.int m19), some (.int m23), some (.int m27), some (.int (sg (ix (x18 + (4 : Int32))))), some (.int m28), some (.int m107), some (.long v35), none, some (.int (-1 : Int32)), some (.int v111), none, none]) (st' := []) rfl ?_
                              exact wpl_lle (ls := [some (.ref 0), some (.int x1), some (.ref 1), some (.long x3), none, some (.long x5), none, some (.long x7), none, some (.long x9), none, some (.int x11), some (.int x12), some (.int x13), some (.int x14), some (.int x15), some (.int x16), some (.int x17), some (.int x18), none, some (.int m19), some (.int m23), none, none, none, some (.int m107), some (.long v35), none, some (.int (-1 : Int32)), some (.int v111), none, none]) ⟨rfl, rfl, rfl, rfl, rfl, rfl, rfl, rfl, rfl, rfl, rfl, rfl, rfl, rfl, rfl, rfl, rfl, rfl, rfl, rfl, rfl, trivial⟩ h112
                            refine wpl_icmp (a := 534) (b := 529) rfl (by decide) rfl rfl (wpl_br (p := (3 : Int32) < m23) ⟨fun hc113 => ?_, fun hc113 => ?_⟩)
                            · refine wpl_sl (n := 2) (pc' := 535) (ls' := [some (.ref 0), some (.int x1), some (.ref 1), some (.long x3), none, some (.long x5), none, some (.long x7), none, some (.long x9), none, some (.int x11), some (.int x12), some (.int x13), some (.int x14), some (.int x15), some (.int x16), some (.int x17), some (.int x18), some (.int ((sg (ix x18)) &&& (7 : Int32))), some (.int m19), some (.int m23), some (.int m27), some (.int (sg (ix (x18 + (4 : Int32))))), some (.int m28), some (.int m31), some (.long v35), none, some (.int (-1 : Int32)), some (.int x1), none, none]) (st' := [.int (-3 : Int32)]) rfl ?_
                              first | exact hm108 _ (by simp only [if_pos hc113]) | exact wpl_lle (by repeat (first | exact trivial | refine ⟨rfl, ?_⟩)) (hm108 _ (by simp only [if_pos hc113]))
                            · refine wpl_sl (n := 1) (pc' := 535) (ls' := [some (.ref 0), some (.int x1), some (.ref 1), some (.long x3), none, some (.long x5), none, some (.long x7), none, some (.long x9), none, some (.int x11), some (.int x12), some (.int x13), some (.int x14), some (.int x15), some (.int x16), some (.int x17), some (.int x18), some (.int ((sg (ix x18)) &&& (7 : Int32))), some (.int m19), some (.int m23), some (.int m27), some (.int (sg (ix (x18 + (4 : Int32))))), some (.int m28), some (.int m31), some (.long v35), none, some (.int (-1 : Int32)), some (.int x1), none, none]) (st' := [.int x1]) rfl ?_
                              first | exact hm108 _ (by simp only [if_neg hc113]) | exact wpl_lle (by repeat (first | exact trivial | refine ⟨rfl, ?_⟩)) (hm108 _ (by simp only [if_neg hc113]))
                          · have h106 := h100.2 hc104
                            refine wpl_sl (n := 1) (pc' := 566) (ls' := [some (.ref 0), some (.int x1), some (.ref 1), some (.long x3), none, some (.long x5), none, some (.long x7), none, some (.long x9), none, some (.int x11), some (.int x12), some (.int x13), some (.int x14), some (.int x15), some (.int x16), some (.int x17), some (.int x18), some (.int ((sg (ix x18)) &&& (7 : Int32))), some (.int m19), some (.int m23), some (.int m27), some (.int (sg (ix (x18 + (4 : Int32))))), some (.int m28), some (.int m31), some (.long v35), none, some (.int (-1 : Int32)), some (.int x1), none, none]) (st' := [.ref 1]) rfl ?_
                            refine wpl_v1 (m' := 11) (me' := cm11) (as := []) (r := []) rfl rfl rfl rfl rfl ⟨by decide, (by first | decide | exact Nat.le_of_ble_eq_true rfl), (by first | decide | exact Nat.le_of_ble_eq_true rfl), rfl⟩ (cal_V (calV.mono h106 fun s114 h116 => ?_))
                            refine wpl_sl (n := 4) (pc' := 575) (ls' := [some (.ref 0), some (.int x1), some (.ref 1), some (.long x3), none, some (.long x5), none, some (.long x7), none, some (.long x9), none, some (.int (0 : Int32)), some (.int x12), some (.int x13), some (.int x14), some (.int x15), some (.int x16), some (.int x17), some (.int x18), some (.int ((sg (ix x18)) &&& (7 : Int32))), some (.int m19), some (.int m23), some (.int m27), some (.int (sg (ix (x18 + (4 : Int32))))), some (.int m28), some (.int x1), some (.long v35), none, some (.int (-1 : Int32)), some (.int x1), none, none]) (st' := []) rfl ?_
                            exact wpl_lle (ls := [some (.ref 0), some (.int x1), some (.ref 1), some (.long x3), none, some (.long x5), none, some (.long x7), none, some (.long x9), none, some (.int (0 : Int32)), some (.int x12), some (.int x13), some (.int x14), some (.int x15), some (.int x16), some (.int x17), some (.int x18), none, some (.int m19), none, none, none, none, some (.int x1), some (.long v35), none, some (.int (-1 : Int32)), some (.int x1), none, none]) ⟨rfl, rfl, rfl, rfl, rfl, rfl, rfl, rfl, rfl, rfl, rfl, rfl, rfl, rfl, rfl, rfl, rfl, rfl, rfl, rfl, trivial⟩ h116
            refine wpl_icmp (a := 202) (b := 197) rfl (by decide) rfl rfl (wpl_br (p := m19 = (2 : Int32)) ⟨fun hc117 => ?_, fun hc117 => ?_⟩)
            · refine wpl_sl (n := 2) (pc' := 214) (ls' := [some (.ref 0), some (.int x1), some (.ref 1), some (.long x3), none, some (.long x5), none, some (.long x7), none, some (.long x9), none, some (.int x11), some (.int x12), some (.int x13), some (.int x14), some (.int x15), some (.int x16), some (.int x17), some (.int x18), some (.int ((sg (ix x18)) &&& (7 : Int32))), some (.int m19), some (.int m23), some (.int m27), some (.int (sg (ix (x18 + (4 : Int32))))), some (.int m28), none, none, none, none, none, none, none]) (st' := [.int (-2 : Int32)]) rfl ?_
              first | exact hm32 _ (by simp only [if_pos hc117]) | exact wpl_lle (by repeat (first | exact trivial | refine ⟨rfl, ?_⟩)) (hm32 _ (by simp only [if_pos hc117]))
            · refine wpl_sl (n := 2) (pc' := 205) (ls' := [some (.ref 0), some (.int x1), some (.ref 1), some (.long x3), none, some (.long x5), none, some (.long x7), none, some (.long x9), none, some (.int x11), some (.int x12), some (.int x13), some (.int x14), some (.int x15), some (.int x16), some (.int x17), some (.int x18), some (.int ((sg (ix x18)) &&& (7 : Int32))), some (.int m19), some (.int m23), some (.int m27), some (.int (sg (ix (x18 + (4 : Int32))))), some (.int m28), none, none, none, none, none, none, none]) (st' := [.int (3 : Int32), .int m23]) rfl ?_
              refine wpl_icmp (a := 213) (b := 208) rfl (by decide) rfl rfl (wpl_br (p := (3 : Int32) < m23) ⟨fun hc118 => ?_, fun hc118 => ?_⟩)
              · refine wpl_sl (n := 2) (pc' := 214) (ls' := [some (.ref 0), some (.int x1), some (.ref 1), some (.long x3), none, some (.long x5), none, some (.long x7), none, some (.long x9), none, some (.int x11), some (.int x12), some (.int x13), some (.int x14), some (.int x15), some (.int x16), some (.int x17), some (.int x18), some (.int ((sg (ix x18)) &&& (7 : Int32))), some (.int m19), some (.int m23), some (.int m27), some (.int (sg (ix (x18 + (4 : Int32))))), some (.int m28), none, none, none, none, none, none, none]) (st' := [.int (-3 : Int32)]) rfl ?_
                first | exact hm32 _ (by simp only [if_neg hc117, if_pos hc118]) | exact wpl_lle (by repeat (first | exact trivial | refine ⟨rfl, ?_⟩)) (hm32 _ (by simp only [if_neg hc117, if_pos hc118]))
              · refine wpl_sl (n := 1) (pc' := 214) (ls' := [some (.ref 0), some (.int x1), some (.ref 1), some (.long x3), none, some (.long x5), none, some (.long x7), none, some (.long x9), none, some (.int x11), some (.int x12), some (.int x13), some (.int x14), some (.int x15), some (.int x16), some (.int x17), some (.int x18), some (.int ((sg (ix x18)) &&& (7 : Int32))), some (.int m19), some (.int m23), some (.int m27), some (.int (sg (ix (x18 + (4 : Int32))))), some (.int m28), none, none, none, none, none, none, none]) (st' := [.int x1]) rfl ?_
                first | exact hm32 _ (by simp only [if_neg hc117, if_neg hc118]) | exact wpl_lle (by repeat (first | exact trivial | refine ⟨rfl, ?_⟩)) (hm32 _ (by simp only [if_neg hc117, if_neg hc118]))
          refine wpl_icmp (a := 191) (b := 181) rfl (by decide) rfl rfl (wpl_br (p := ((sg (ix (x18 + (3 : Int32)))) &&& (28 : Int32)) = (28 : Int32)) ⟨fun hc119 => ?_, fun hc119 => ?_⟩)
          · refine wpl_sl (n := 6) (pc' := 191) (ls' := [some (.ref 0), some (.int x1), some (.ref 1), some (.long x3), none, some (.long x5), none, some (.long x7), none, some (.long x9), none, some (.int x11), some (.int x12), some (.int x13), some (.int x14), some (.int x15), some (.int x16), some (.int x17), some (.int x18), some (.int ((sg (ix x18)) &&& (7 : Int32))), some (.int m19), some (.int m23), some (.int (((sg (ix (x18 + (3 : Int32)))) &&& (3 : Int32)) + (8 : Int32))), some (.int (sg (ix (x18 + (4 : Int32))))), some (.int (4 : Int32)), none, none, none, none, none, none, none]) (st' := []) rfl ?_
            first | exact hm29 _ (by simp only [if_pos hc119]) _ (by simp only [if_pos hc119]) | exact wpl_lle (by repeat (first | exact trivial | refine ⟨rfl, ?_⟩)) (hm29 _ (by simp only [if_pos hc119]) _ (by simp only [if_pos hc119]))
          · first | exact hm29 _ (by simp only [if_neg hc119]) _ (by simp only [if_neg hc119]) | exact wpl_lle (by repeat (first | exact trivial | refine ⟨rfl, ?_⟩)) (hm29 _ (by simp only [if_neg hc119]) _ (by simp only [if_neg hc119]))
        refine wpl_icmp (a := 163) (b := 156) rfl (by decide) rfl rfl (wpl_br (p := ((sg (ix (x18 + (2 : Int32)))) &&& (28 : Int32)) = (28 : Int32)) ⟨fun hc120 => ?_, fun hc120 => ?_⟩)
        · refine wpl_sl (n := 4) (pc' := 163) (ls' := [some (.ref 0), some (.int x1), some (.ref 1), some (.long x3), none, some (.long x5), none, some (.long x7), none, some (.long x9), none, some (.int x11), some (.int x12), some (.int x13), some (.int x14), some (.int x15), some (.int x16), some (.int x17), some (.int x18), some (.int ((sg (ix x18)) &&& (7 : Int32))), some (.int m19), some (.int (((sg (ix (x18 + (2 : Int32)))) &&& (3 : Int32)) + (8 : Int32))), some (.int ((sg (ix (x18 + (3 : Int32)))) &&& (3 : Int32))), some (.int (sg (ix (x18 + (4 : Int32))))), none, none, none, none, none, none, none, none]) (st' := []) rfl ?_
          first | exact hm24 _ (by simp only [if_pos hc120]) | exact wpl_lle (by repeat (first | exact trivial | refine ⟨rfl, ?_⟩)) (hm24 _ (by simp only [if_pos hc120]))
        · first | exact hm24 _ (by simp only [if_neg hc120]) | exact wpl_lle (by repeat (first | exact trivial | refine ⟨rfl, ?_⟩)) (hm24 _ (by simp only [if_neg hc120]))
      refine wpl_icmp (a := 142) (b := 139) rfl (by decide) rfl rfl (wpl_br (p := ((sg (ix (x18 + (1 : Int32)))) &&& (14 : Int32)) = (14 : Int32)) ⟨fun hc121 => ?_, fun hc121 => ?_⟩)
      · refine wpl_sl (n := 2) (pc' := 142) (ls' := [some (.ref 0), some (.int x1), some (.ref 1), some (.long x3), none, some (.long x5), none, some (.long x7), none, some (.long x9), none, some (.int x11), some (.int x12), some (.int x13), some (.int x14), some (.int x15), some (.int x16), some (.int x17), some (.int x18), some (.int ((sg (ix x18)) &&& (7 : Int32))), some (.int (2 : Int32)), some (.int ((sg (ix (x18 + (2 : Int32)))) &&& (3 : Int32))), some (.int ((sg (ix (x18 + (3 : Int32)))) &&& (3 : Int32))), some (.int (sg (ix (x18 + (4 : Int32))))), none, none, none, none, none, none, none, none]) (st' := []) rfl ?_
        first | exact hm20 _ (by simp only [if_pos hc121]) | exact wpl_lle (by repeat (first | exact trivial | refine ⟨rfl, ?_⟩)) (hm20 _ (by simp only [if_pos hc121]))
      · first | exact hm20 _ (by simp only [if_neg hc121]) | exact wpl_lle (by repeat (first | exact trivial | refine ⟨rfl, ?_⟩)) (hm20 _ (by simp only [if_neg hc121]))
    · have h12 := h8.2 hc10
      refine wpl_sl (n := 1) (pc' := 752) (ls' := [some (.ref 0), some (.int x1), some (.ref 1), some (.long x3), none, some (.long x5), none, some (.long x7), none, some (.long x9), none, some (.int x11), some (.int x12), some (.int x13), some (.int x14), some (.int x15), some (.int x16), some (.int x17), some (.int x18), none, none, none, none, none, none, none, none, none, none, none, none, none]) (st' := [.int (1 : Int32)]) rfl ?_
      exact wpl_ret rfl rfl rfl ⟨(1 : Int32), rfl, h12⟩
  · have h9 := h.2 hc7
    refine wpl_sl (n := 1) (pc' := 752) (ls' := [some (.ref 0), some (.int x1), some (.ref 1), some (.long x3), none, some (.long x5), none, some (.long x7), none, some (.long x9), none, some (.int x11), some (.int x12), some (.int x13), some (.int x14), some (.int x15), some (.int x16), some (.int x17), some (.int x18), none, none, none, none, none, none, none, none, none, none, none, none, none]) (st' := [.int (1 : Int32)]) rfl ?_
    exact wpl_ret rfl rfl rfl ⟨(1 : Int32), rfl, h9⟩
theorem l0_575 (N : Nat) (sg : Nat → Int32) (x1 : Int32) (x3 : Int64) (x5 : Int64) (x7 : Int64) (x9 : Int64) (x11 : Int32) (x12 : Int32) (x13 : Int32) (x14 : Int32) (x15 : Int32) (x16 : Int32) (x17 : Int32) (x18 : Int32) (x20 : Int32) (x25 : Int32) (x26 : Int64) (x28 : Int32) (x29 : Int32)  (Q : Int32 → Wd → Prop) (h : ((x29 = x25) → ∀ m125, m125 = (if x28 < (0 : Int32) then x3 else (if x28 = (0 : Int32) then x26 else x3)) → ∀ m126, m126 = (if x28 < (0 : Int32) then x5 else (if x28 = (0 : Int32) then x5 else (if x28 = (1 : Int32) then x26 else x5))) → ∀ m127, m127 = (if x28 < (0 : Int32) then x7 else (if x28 = (0 : Int32) then x7 else (if x28 = (1 : Int32) then x7 else (if x28 = (2 : Int32) then x26 else x7)))) → ∀ m128, m128 = (if x28 < (0 : Int32) then x9 else (if x28 = (0 : Int32) then x9 else (if x28 = (1 : Int32) then x9 else (if x28 = (2 : Int32) then x9 else x26)))) → ∀ m129, m129 = (if x28 < (0 : Int32) then x11 else (x11 ||| ((1 : Int32) <<< (x28 &&& 31)))) → ∀ m130, m130 = (if x28 < (0 : Int32) then x14 else (if x20 = (0 : Int32) then (x14 + (1 : Int32)) else x14)) → ∀ m131, m131 = (if x28 < (0 : Int32) then x15 else (if x20 = (0 : Int32) then x15 else (x15 + (1 : Int32)))) → (lalI PP QQ (some (N, sg)) 5 [.ref 1, .long m125, .long m126, .long m127, .long m128, .int m129] (W1 s) (fun v135 w134 => ∃ s137, w134 = W1 s137 ∧ (((v135 = (0 : Int32)) → Q (0 : Int32) (W1 s137)) ∧ (¬ (v135 = (0 : Int32)) → calI PP 16 16 [.ref 0, .int (0 : Int32)] s137 (fun v142 s141 => ((v142 = x12) → calI PP 16 16 [.ref 0, .int (1 : Int32)] s141 (fun v148 s147 => ((v148 = x13) → calI PP 17 16 [.ref 0, .int (0 : Int32)] s147 (fun v154 s153 => ((v154 = m130) → calI PP 17 16 [.ref 0, .int (1 : Int32)] s153 (fun v160 s159 => ((v160 = m131) → calI PP 15 16 [.ref 0, .int (0 : Int32)] s159 (fun v166 s165 => ((v166 = x16) → calI PP 15 16 [.ref 0, .int (1 : Int32)] s165 (fun v172 s171 => ((v172 = x17) → calI PP 15 16 [.ref 0, .int (2 : Int32)] s171 (fun v178 s177 => ((v178 = (-2 : Int32)) → wplI PP QQ (some (N, sg)) 0 lm0 62 [some (.ref 0), some (.int x1), some (.ref 1), some (.long m125), none, some (.long m126), none, some (.long m127), none, some (.long m128), none, some (.int m129), some (.int x12), some (.int x13), some (.int m130), some (.int m131), some (.int x16), some (.int x17), some (.int (x18 + (5 : Int32))), none, none, none, none, none, none, none, none, none, none, none, none, none] [] (W1 s177) Q) ∧ (¬ (v178 = (-2 : Int32)) → Q (0 : Int32) (W1 s177)))) ∧ (¬ (v172 = x17) → Q (0 : Int32) (W1 s171)))) ∧ (¬ (v166 = x16) → Q (0 : Int32) (W1 s165)))) ∧ (¬ (v160 = m131) → Q (0 : Int32) (W1 s159)))) ∧ (¬ (v154 = m130) → Q (0 : Int32) (W1 s153)))) ∧ (¬ (v148 = x13) → Q (0 : Int32) (W1 s147)))) ∧ (¬ (v142 = x12) → Q (0 : Int32) (W1 s141)))))))) ∧ (¬ (x29 = x25) → Q (0 : Int32) (W1 s))) : wplI PP QQ (some (N, sg)) 0 lm0 575 [some (.ref 0), some (.int x1), some (.ref 1), some (.long x3), none, some (.long x5), none, some (.long x7), none, some (.long x9), none, some (.int x11), some (.int x12), some (.int x13), some (.int x14), some (.int x15), some (.int x16), some (.int x17), some (.int x18), none, some (.int x20), none, none, none, none, some (.int x25), some (.long x26), none, some (.int x28), some (.int x29), none, none] [] (W1 s) Q := by
  refine wpl_sl (n := 2) (pc' := 579) (ls' := [some (.ref 0), some (.int x1), some (.ref 1), some (.long x3), none, some (.long x5), none, some (.long x7), none, some (.long x9), none, some (.int x11), some (.int x12), some (.int x13), some (.int x14), some (.int x15), some (.int x16), some (.int x17), some (.int x18), none, some (.int x20), none, none, none, none, some (.int x25), some (.long x26), none, some (.int x28), some (.int x29), none, none]) (st' := [.int x25, .int x29]) rfl ?_
  refine wpl_icmp (a := 584) (b := 582) rfl (by decide) rfl rfl (wpl_br (p := x29 = x25) ⟨fun hc122 => ?_, fun hc122 => ?_⟩)
  · have h123 := h.1 hc122
    refine wpl_sl (n := 1) (pc' := 586) (ls' := [some (.ref 0), some (.int x1), some (.ref 1), some (.long x3), none, some (.long x5), none, some (.long x7), none, some (.long x9), none, some (.int x11), some (.int x12), some (.int x13), some (.int x14), some (.int x15), some (.int x16), some (.int x17), some (.int x18), none, some (.int x20), none, none, none, none, some (.int x25), some (.long x26), none, some (.int x28), some (.int x29), none, none]) (st' := [.int x28]) rfl ?_
    have hm132 : ∀ m125, m125 = (if x28 < (0 : Int32) then x3 else (if x28 = (0 : Int32) then x26 else x3)) → ∀ m126, m126 = (if x28 < (0 : Int32) then x5 else (if x28 = (0 : Int32) then x5 else (if x28 = (1 : Int32) then x26 else x5))) → ∀ m127, m127 = (if x28 < (0 : Int32) then x7 else (if x28 = (0 : Int32) then x7 else (if x28 = (1 : Int32) then x7 else (if x28 = (2 : Int32) then x26 else x7)))) → ∀ m128, m128 = (if x28 < (0 : Int32) then x9 else (if x28 = (0 : Int32) then x9 else (if x28 = (1 : Int32) then x9 else (if x28 = (2 : Int32) then x9 else x26)))) → ∀ m129, m129 = (if x28 < (0 : Int32) then x11 else (x11 ||| ((1 : Int32) <<< (x28 &&& 31)))) → ∀ m130, m130 = (if x28 < (0 : Int32) then x14 else (if x20 = (0 : Int32) then (x14 + (1 : Int32)) else x14)) → ∀ m131, m131 = (if x28 < (0 : Int32) then x15 else (if x20 = (0 : Int32) then x15 else (x15 + (1 : Int32)))) → wplI PP QQ (some (N, sg)) 0 lm0 653 [some (.ref 0), some (.int x1), some (.ref 1), some (.long m125), none, some (.long m126), none, some (.long m127), none, some (.long m128), none, some (.int m129), some (.int x12), some (.int x13), some (.int m130), some (.int m131), some (.int x16), some (.int x17), some (.int x18), none, some (.int x20), none, none, none, none, some (.int x25), some (.long x26), none, some (.int x28), some (.int x29), none, none] [] (W1 s) Q := by
      intro m125 em125 m126 em126 m127 em127 m128 em128 m129 em129 m130 em130 m131 em131
      have h133 := h123 m125 em125 m126 em126 m127 em127 m128 em128 m129 em129 m130 em130 m131 em131
      refine wpl_sl (n := 6) (pc' := 663) (ls' := [some (.ref 0), some (.int x1), some (.ref 1), some (.long m125), none, some (.long m126), none, some (.long m127), none, some (.long m128), none, some (.int m129), some (.int x12), some (.int x13), some (.int m130), some (.int m131), some (.int x16), some (.int x17), some (.int x18), none, some (.int x20), none, none, none, none, some (.int x25), some (.long x26), none, some (.int x28), some (.int x29), none, none]) (st' := [.int m129, .long m128, .long m127, .long m126, .long m125, .ref 1]) rfl ?_
      refine wpl_stat (m' := 5) (me' := lm5) (as := [.ref 1, .long m125, .long m126, .long m127, .long m128, .int m129]) (r := []) rfl rfl rfl rfl rfl ⟨(by first | decide | exact Nat.le_of_ble_eq_true rfl), (by first | decide | exact Nat.le_of_ble_eq_true rfl), (by first | decide | exact Nat.le_of_ble_eq_true rfl), (by first | decide | exact Nat.le_of_ble_eq_true rfl), rfl⟩ (lal_I (lalI.mono h133 fun v135 w134 hh => ?_))
      obtain ⟨s137, rfl, h136⟩ := hh
      refine wpl_if (a := 671) (b := 669) rfl (by decide) rfl rfl (wpl_br (p := v135 = (0 : Int32)) ⟨fun hc138 => ?_, fun hc138 => ?_⟩)
      · have h139 := h136.1 hc138
        refine wpl_sl (n := 1) (pc' := 670) (ls' := [some (.ref 0), some (.int x1), some (.ref 1), some (.long m125), none, some (.long m126), none, some (.long m127), none, some (.long m128), none, some (.int m129), some (.int x12), some (.int x13), some (.int m130), some (.int m131), some (.int x16), some (.int x17), some (.int x18), none, some (.int x20), none, none, none, none, some (.int x25), some (.long x26), none, some (.int x28), some (.int x29), none, none]) (st' := [.int (0 : Int32)]) rfl ?_
        exact wpl_ret rfl rfl rfl ⟨(0 : Int32), rfl, h139⟩
      · have h140 := h136.2 hc138
        refine wpl_sl (n := 2) (pc' := 673) (ls' := [some (.ref 0), some (.int x1), some (.ref 1), some (.long m125), none, some (.long m126), none, some (.long m127), none, some (.long m128), none, some (.int m129), some (.int x12), some (.int x13), some (.int m130), some (.int m131), some (.int x16), some (.int x17), some (.int x18), none, some (.int x20), none, none, none, none, some (.int x25), some (.long x26), none, some (.int x28), some (.int x29), none, none]) (st' := [.int (0 : Int32), .ref 1]) rfl ?_
        refine wpl_v1 (m' := 16) (me' := cm16) (as := [.int (0 : Int32)]) (r := []) rfl rfl rfl rfl rfl ⟨by decide, (by first | decide | exact Nat.le_of_ble_eq_true rfl), (by first | decide | exact Nat.le_of_ble_eq_true rfl), rfl⟩ (cal_I (calI.mono h140 fun v142 s141 h143 => ?_))
        refine wpl_sl (n := 1) (pc' := 678) (ls' := [some (.ref 0), some (.int x1), some (.ref 1), some (.long m125), none, some (.long m126), none, some (.long m127), none, some (.long m128), none, some (.int m129), some (.int x12), some (.int x13), some (.int m130), some (.int m131), some (.int x16), some (.int x17), some (.int x18), none, some (.int x20), none, none, none, none, some (.int x25), some (.long x26), none, some (.int x28), some (.int x29), none, none]) (st' := [.int x12, .int v142]) rfl ?_
        refine wpl_icmp (a := 711) (b := 681) rfl (by decide) rfl rfl (wpl_br (p := v142 = x12) ⟨fun hc144 => ?_, fun hc144 => ?_⟩)
        · have h145 := h143.1 hc144
          refine wpl_sl (n := 2) (pc' := 683) (ls' := [some (.ref 0), some (.int x1), some (.ref 1), some (.long m125), none, some (.long m126), none, some (.long m127), none, some (.long m128), none, some (.int m129), some (.int x12), some (.int x13), some (.int m130), some (.int m131), some (.int x16), some (.int x17), some (.int x18), none, some (.int x20), none, none, none, none, some (.int x25), some (.long x26), none, some (.int x28), some (.int x29), none, none]) (st' := [.int (1 : Int32), .ref 1]) rfl ?_
          refine wpl_v1 (m' := 16) (me' := cm16) (as := [.int (1 : Int32)]) (r := []) rfl rfl rfl rfl rfl ⟨by decide, (by first | decide | exact Nat.le_of_ble_eq_true rfl), (by first | decide | exact Nat.le_of_ble_eq_true rfl), rfl⟩ (cal_I (calI.mono h145 fun v148 s147 h149 => ?_))
          refine wpl_sl (n := 1) (pc' := 688) (ls' := [some (.ref 0), some (.int x1), some (.ref 1), some (.long m125), none, some (.long m126), none, some (.long m127), none, some (.long m128), none, some (.int m129), some (.int x12), some (.int x13), some (.int m130), some (.int m131), some (.int x16), some (.int x17), some (.int x18), none, some (.int x20), none, none, none, none, some (.int x25), some (.long x26), none, some (.int x28), some (.int x29), none, none]) (st' := [.int x13, .int v148]) rfl ?_
          refine wpl_icmp (a := 711) (b := 691) rfl (by decide) rfl rfl (wpl_br (p := v148 = x13) ⟨fun hc150 => ?_, fun hc150 => ?_⟩)
          · have h151 := h149.1 hc150
            refine wpl_sl (n := 2) (pc' := 693) (ls' := [some (.ref 0), some (.int x1), some (.ref 1), some (.long m125), none, some (.long m126), none, some (.long m127), none, some (.long m128), none, some (.int m129), some (.int x12), some (.int x13), some (.int m130), some (.int m131), some (.int x16), some (.int x17), some (.int x18), none, some (.int x20), none, none, none, none, some (.int x25), some (.long x26), none, some (.int x28), some (.int x29), none, none]) (st' := [.int (0 : Int32), .ref 1]) rfl ?_
            refine wpl_v1 (m' := 17) (me' := cm17) (as := [.int (0 : Int32)]) (r := []) rfl rfl rfl rfl rfl ⟨by decide, (by first | decide | exact Nat.le_of_ble_eq_true rfl), (by first | decide | exact Nat.le_of_ble_eq_true rfl), rfl⟩ (cal_I (calI.mono h151 fun v154 s153 h155 => ?_))
            refine wpl_sl (n := 1) (pc' := 698) (ls' := [some (.ref 0), some (.int x1), some (.ref 1), some (.long m125), none, some (.long m126), none, some (.long m127), none, some (.long m128), none, some (.int m129), some (.int x12), some (.int x13), some (.int m130), some (.int m131), some (.int x16), some (.int x17), some (.int x18), none, some (.int x20), none, none, none, none, some (.int x25), some (.long x26), none, some (.int x28), some (.int x29), none, none]) (st' := [.int m130, .int v154]) rfl ?_
            refine wpl_icmp (a := 711) (b := 701) rfl (by decide) rfl rfl (wpl_br (p := v154 = m130) ⟨fun hc156 => ?_, fun hc156 => ?_⟩)
            · have h157 := h155.1 hc156
              refine wpl_sl (n := 2) (pc' := 703) (ls' := [some (.ref 0), some (.int x1), some (.ref 1), some (.long m125), none, some (.long m126), none, some (.long m127), none, some (.long m128), none, some (.int m129), some (.int x12), some (.int x13), some (.int m130), some (.int m131), some (.int x16), some (.int x17), some (.int x18), none, some (.int x20), none, none, none, none, some (.int x25), some (.long x26), none, some (.int x28), some (.int x29), none, none]) (st' := [.int (1 : Int32), .ref 1]) rfl ?_
              refine wpl_v1 (m' := 17) (me' := cm17) (as := [.int (1 : Int32)]) (r := []) rfl rfl rfl rfl rfl ⟨by decide, (by first | decide | exact Nat.le_of_ble_eq_true rfl), (by first | decide | exact Nat.le_of_ble_eq_true rfl), rfl⟩ (cal_I (calI.mono h157 fun v160 s159 h161 => ?_))
              refine wpl_sl (n := 1) (pc' := 708) (ls' := [some (.ref 0), some (.int x1), some (.ref 1), some (.long m125), none, some (.long m126), none, some (.long m127), none, some (.long m128), none, some (.int m129), some (.int x12), some (.int x13), some (.int m130), some (.int m131), some (.int x16), some (.int x17), some (.int x18), none, some (.int x20), none, none, none, none, some (.int x25), some (.long x26), none, some (.int x28), some (.int x29), none, none]) (st' := [.int m131, .int v160]) rfl ?_
              refine wpl_icmp (a := 713) (b := 711) rfl (by decide) rfl rfl (wpl_br (p := v160 = m131) ⟨fun hc162 => ?_, fun hc162 => ?_⟩)
              · have h163 := h161.1 hc162
                refine wpl_sl (n := 2) (pc' := 715) (ls' := [some (.ref 0), some (.int x1), some (.ref 1), some (.long m125), none, some (.long m126), none, some (.long m127), none, some (.long m128), none, some (.int m129), some (.int x12), some (.int x13), some (.int m130), some (.int m131), some (.int x16), some (.int x17), some (.int x18), none, some (.int x20), none, none, none, none, some (.int x25), some (.long x26), none, some (.int x28), some (.int x29), none, none]) (st' := [.int (0 : Int32), .ref 1]) rfl ?_
                refine wpl_v1 (m' := 15) (me' := cm15) (as := [.int (0 : Int32)]) (r := []) rfl rfl rfl rfl rfl ⟨by decide, (by first | decide | exact Nat.le_of_ble_eq_true rfl), (by first | decide | exact Nat.le_of_ble_eq_true rfl), rfl⟩ (cal_I (calI.mono h163 fun v166 s165 h167 => ?_))
                refine wpl_sl (n := 1) (pc' := 720) (ls' := [some (.ref 0), some (.int x1), some (.ref 1), some (.long m125), none, some (.long m126), none, some (.long m127), none, some (.long m128), none, some (.int m129), some (.int x12), some (.int x13), some (.int m130), some (.int m131), some (.int x16), some (.int x17), some (.int x18), none, some (.int x20), none, none, none, none, some (.int x25), some (.long x26), none, some (.int x28), some (.int x29), none, none]) (st' := [.int x16, .int v166]) rfl ?_
                refine wpl_icmp (a := 743) (b := 723) rfl (by decide) rfl rfl (wpl_br (p := v166 = x16) ⟨fun hc168 => ?_, fun hc168 => ?_⟩)
                · have h169 := h167.1 hc168
                  refine wpl_sl (n := 2) (pc' := 725) (ls' := [some (.ref 0), some (.int x1), some (.ref 1), some (.long m125), none, some (.long m126), none, some (.long m127), none, some (.long m128), none, some (.int m129), some (.int x12), some (.int x13), some (.int m130), some (.int m131), some (.int x16), some (.int x17), some (.int x18), none, some (.int x20), none, none, none, none, some (.int x25), some (.long x26), none, some (.int x28), some (.int x29), none, none]) (st' := [.int (1 : Int32), .ref 1]) rfl ?_
                  refine wpl_v1 (m' := 15) (me' := cm15) (as := [.int (1 : Int32)]) (r := []) rfl rfl rfl rfl rfl ⟨by decide, (by first | decide | exact Nat.le_of_ble_eq_true rfl), (by first | decide | exact Nat.le_of_ble_eq_true rfl), rfl⟩ (cal_I (calI.mono h169 fun v172 s171 h173 => ?_))
                  refine wpl_sl (n := 1) (pc' := 730) (ls' := [some (.ref 0), some (.int x1), some (.ref 1), some (.long m125), none, some (.long m126), none, some (.long m127), none, some (.long m128), none, some (.int m129), some (.int x12), some (.int x13), some (.int m130), some (.int m131), some (.int x16), some (.int x17), some (.int x18), none, some (.int x20), none, none, none, none, some (.int x25), some (.long x26), none, some (.int x28), some (.int x29), none, none]) (st' := [.int x17, .int v172]) rfl ?_
                  refine wpl_icmp (a := 743) (b := 733) rfl (by decide) rfl rfl (wpl_br (p := v172 = x17) ⟨fun hc174 => ?_, fun hc174 => ?_⟩)
                  · have h175 := h173.1 hc174
                    refine wpl_sl (n := 2) (pc' := 735) (ls' := [some (.ref 0), some (.int x1), some (.ref 1), some (.long m125), none, some (.long m126), none, some (.long m127), none, some (.long m128), none, some (.int m129), some (.int x12), some (.int x13), some (.int m130), some (.int m131), some (.int x16), some (.int x17), some (.int x18), none, some (.int x20), none, none, none, none, some (.int x25), some (.long x26), none, some (.int x28), some (.int x29), none, none]) (st' := [.int (2 : Int32), .ref 1]) rfl ?_
                    refine wpl_v1 (m' := 15) (me' := cm15) (as := [.int (2 : Int32)]) (r := []) rfl rfl rfl rfl rfl ⟨by decide, (by first | decide | exact Nat.le_of_ble_eq_true rfl), (by first | decide | exact Nat.le_of_ble_eq_true rfl), rfl⟩ (cal_I (calI.mono h175 fun v178 s177 h179 => ?_))
                    refine wpl_sl (n := 1) (pc' := 740) (ls' := [some (.ref 0), some (.int x1), some (.ref 1), some (.long m125), none, some (.long m126), none, some (.long m127), none, some (.long m128), none, some (.int m129), some (.int x12), some (.int x13), some (.int m130), some (.int m131), some (.int x16), some (.int x17), some (.int x18), none, some (.int x20), none, none, none, none, some (.int x25), some (.long x26), none, some (.int x28), some (.int x29), none, none]) (st' := [.int (-2 : Int32), .int v178]) rfl ?_
                    refine wpl_icmp (a := 745) (b := 743) rfl (by decide) rfl rfl (wpl_br (p := v178 = (-2 : Int32)) ⟨fun hc180 => ?_, fun hc180 => ?_⟩)
                    · have h181 := h179.1 hc180
                      refine wpl_sl (n := 2) (pc' := 62) (ls' := [some (.ref 0), some (.int x1), some (.ref 1), some (.long m125), none, some (.long m126), none, some (.long m127), none, some (.long m128), none, some (.int m129), some (.int x12), some (.int x13), some (.int m130), some (.int m131), some (.int x16), some (.int x17), some (.int (x18 + (5 : Int32))), none, some (.int x20), none, none, none, none, some (.int x25), some (.long x26), none, some (.int x28), some (.int x29), none, none]) (st' := []) rfl ?_
                      exact wpl_lle (ls := [some (.ref 0), some (.int x1), some (.ref 1), some (.long m125), none, some (.long m126), none, some (.long m127), none, some (.long m128), none, some (.int m129), some (.int x12), some (.int x13), some (.int m130), some (.int m131), some (.int x16), some (.int x17), some (.int (x18 + (5 : Int32))), none, none, none, none, none, none, none, none, none, none, none, none, none]) ⟨rfl, rfl, rfl, rfl, rfl, rfl, rfl, rfl, rfl, rfl, rfl, rfl, rfl, rfl, rfl, trivial⟩ h181
                    · have h182 := h179.2 hc180
                      refine wpl_sl (n := 1) (pc' := 744) (ls' := [some (.ref 0), some (.int x1), some (.ref 1), some (.long m125), none, some (.long m126), none, some (.long m127), none, some (.long m128), none, some (.int m129), some (.int x12), some (.int x13), some (.int m130), some (.int m131), some (.int x16), some (.int x17), some (.int x18), none, some (.int x20), none, none, none, none, some (.int x25), some (.long x26), none, some (.int x28), some (.int x29), none, none]) (st' := [.int (0 : Int32)]) rfl ?_
                      exact wpl_ret rfl rfl rfl ⟨(0 : Int32), rfl, h182⟩
                  · have h176 := h173.2 hc174
                    refine wpl_sl (n := 1) (pc' := 744) (ls' := [some (.ref 0), some (.int x1), some (.ref 1), some (.long m125), none, some (.long m126), none, some (.long m127), none, some (.long m128), none, some (.int m129), some (.int x12), some (.int x13), some (.int m130), some (.int m131), some (.int x16), some (.int x17), some (.int x18), none, some (.int x20), none, none, none, none, some (.int x25), some (.long x26), none, some (.int x28), some (.int x29), none, none]) (st' := [.int (0 : Int32)]) rfl ?_
                    exact wpl_ret rfl rfl rfl ⟨(0 : Int32), rfl, h176⟩
                · have h170 := h167.2 hc168
                  refine wpl_sl (n := 1) (pc' := 744) (ls' := [some (.ref 0), some (.int x1), some (.ref 1), some (.long m125), none, some (.long m126), none, some (.long m127), none, some (.long m128), none, some (.int m129), some (.int x12), some (.int x13), some (.int m130), some (.int m131), some (.int x16), some (.int x17), some (.int x18), none, some (.int x20), none, none, none, none, some (.int x25), some (.long x26), none, some (.int x28), some (.int x29), none, none]) (st' := [.int (0 : Int32)]) rfl ?_
                  exact wpl_ret rfl rfl rfl ⟨(0 : Int32), rfl, h170⟩
              · have h164 := h161.2 hc162
                refine wpl_sl (n := 1) (pc' := 712) (ls' := [some (.ref 0), some (.int x1), some (.ref 1), some (.long m125), none, some (.long m126), none, some (.long m127), none, some (.long m128), none, some (.int m129), some (.int x12), some (.int x13), some (.int m130), some (.int m131), some (.int x16), some (.int x17), some (.int x18), none, some (.int x20), none, none, none, none, some (.int x25), some (.long x26), none, some (.int x28), some (.int x29), none, none]) (st' := [.int (0 : Int32)]) rfl ?_
                exact wpl_ret rfl rfl rfl ⟨(0 : Int32), rfl, h164⟩
            · have h158 := h155.2 hc156
              refine wpl_sl (n := 1) (pc' := 712) (ls' := [some (.ref 0), some (.int x1), some (.ref 1), some (.long m125), none, some (.long m126), none, some (.long m127), none, some (.long m128), none, some (.int m129), some (.int x12), some (.int x13), some (.int m130), some (.int m131), some (.int x16), some (.int x17), some (.int x18), none, some (.int x20), none, none, none, none, some (.int x25), some (.long x26), none, some (.int x28), some (.int x29), none, none]) (st' := [.int (0 : Int32)]) rfl ?_
              exact wpl_ret rfl rfl rfl ⟨(0 : Int32), rfl, h158⟩
          · have h152 := h149.2 hc150
            refine wpl_sl (n := 1) (pc' := 712) (ls' := [some (.ref 0), some (.int x1), some (.ref 1), some (.long m125), none, some (.long m126), none, some (.long m127), none, some (.long m128), none, some (.int m129), some (.int x12), some (.int x13), some (.int m130), some (.int m131), some (.int x16), some (.int x17), some (.int x18), none, some (.int x20), none, none, none, none, some (.int x25), some (.long x26), none, some (.int x28), some (.int x29), none, none]) (st' := [.int (0 : Int32)]) rfl ?_
            exact wpl_ret rfl rfl rfl ⟨(0 : Int32), rfl, h152⟩
        · have h146 := h143.2 hc144
          refine wpl_sl (n := 1) (pc' := 712) (ls' := [some (.ref 0), some (.int x1), some (.ref 1), some (.long m125), none, some (.long m126), none, some (.long m127), none, some (.long m128), none, some (.int m129), some (.int x12), some (.int x13), some (.int m130), some (.int m131), some (.int x16), some (.int x17), some (.int x18), none, some (.int x20), none, none, none, none, some (.int x25), some (.long x26), none, some (.int x28), some (.int x29), none, none]) (st' := [.int (0 : Int32)]) rfl ?_
          exact wpl_ret rfl rfl rfl ⟨(0 : Int32), rfl, h146⟩
    refine wpl_if (a := 653) (b := 589) rfl (by decide) rfl rfl (wpl_br (p := x28 < (0 : Int32)) ⟨fun hc183 => ?_, fun hc183 => ?_⟩)
    · first | exact hm132 _ (by simp only [if_pos hc183]) _ (by simp only [if_pos hc183]) _ (by simp only [if_pos hc183]) _ (by simp only [if_pos hc183]) _ (by simp only [if_pos hc183]) _ (by simp only [if_pos hc183]) _ (by simp only [if_pos hc183]) | exact wpl_lle (by repeat (first | exact trivial | refine ⟨rfl, ?_⟩)) (hm132 _ (by simp only [if_pos hc183]) _ (by simp only [if_pos hc183]) _ (by simp only [if_pos hc183]) _ (by simp only [if_pos hc183]) _ (by simp only [if_pos hc183]) _ (by simp only [if_pos hc183]) _ (by simp only [if_pos hc183]))
    · refine wpl_sl (n := 7) (pc' := 600) (ls' := [some (.ref 0), some (.int x1), some (.ref 1), some (.long x3), none, some (.long x5), none, some (.long x7), none, some (.long x9), none, some (.int (x11 ||| ((1 : Int32) <<< (x28 &&& 31)))), some (.int x12), some (.int x13), some (.int x14), some (.int x15), some (.int x16), some (.int x17), some (.int x18), none, some (.int x20), none, none, none, none, some (.int x25), some (.long x26), none, some (.int x28), some (.int x29), none, none]) (st' := [.int x20]) rfl ?_
      refine wpl_if (a := 609) (b := 603) rfl (by decide) rfl rfl (wpl_br (p := x20 = (0 : Int32)) ⟨fun hc184 => ?_, fun hc184 => ?_⟩)
      · refine wpl_sl (n := 3) (pc' := 614) (ls' := [some (.ref 0), some (.int x1), some (.ref 1), some (.long x3), none, some (.long x5), none, some (.long x7), none, some (.long x9), none, some (.int (x11 ||| ((1 : Int32) <<< (x28 &&& 31)))), some (.int x12), some (.int x13), some (.int (x14 + (1 : Int32))), some (.int x15), some (.int x16), some (.int x17), some (.int x18), none, some (.int x20), none, none, none, none, some (.int x25), some (.long x26), none, some (.int x28), some (.int x29), none, none]) (st' := [.int x28]) rfl ?_
        refine wpl_if (a := 623) (b := 617) rfl (by decide) rfl rfl (wpl_br (p := x28 = (0 : Int32)) ⟨fun hc185 => ?_, fun hc185 => ?_⟩)
        · refine wpl_sl (n := 3) (pc' := 653) (ls' := [some (.ref 0), some (.int x1), some (.ref 1), some (.long x26), none, some (.long x5), none, some (.long x7), none, some (.long x9), none, some (.int (x11 ||| ((1 : Int32) <<< (x28 &&& 31)))), some (.int x12), some (.int x13), some (.int (x14 + (1 : Int32))), some (.int x15), some (.int x16), some (.int x17), some (.int x18), none, some (.int x20), none, none, none, none, some (.int x25), some (.long x26), none, some (.int x28), some (.int x29), none, none]) (st' := []) rfl ?_
          first | exact hm132 _ (by simp only [if_neg hc183, if_pos hc184, if_pos hc185]) _ (by simp only [if_neg hc183, if_pos hc184, if_pos hc185]) _ (by simp only [if_neg hc183, if_pos hc184, if_pos hc185]) _ (by simp only [if_neg hc183, if_pos hc184, if_pos hc185]) _ (by simp only [if_neg hc183, if_pos hc184, if_pos hc185]) _ (by simp only [if_neg hc183, if_pos hc184, if_pos hc185]) _ (by simp only [if_neg hc183, if_pos hc184, if_pos hc185]) | exact wpl_lle (by repeat (first | exact trivial | refine ⟨rfl, ?_⟩)) (hm132 _ (by simp only [if_neg hc183, if_pos hc184, if_pos hc185]) _ (by simp only [if_neg hc183, if_pos hc184, if_pos hc185]) _ (by simp only [if_neg hc183, if_pos hc184, if_pos hc185]) _ (by simp only [if_neg hc183, if_pos hc184, if_pos hc185]) _ (by simp only [if_neg hc183, if_pos hc184, if_pos hc185]) _ (by simp only [if_neg hc183, if_pos hc184, if_pos hc185]) _ (by simp only [if_neg hc183, if_pos hc184, if_pos hc185]))
        · refine wpl_sl (n := 2) (pc' := 626) (ls' := [some (.ref 0), some (.int x1), some (.ref 1), some (.long x3), none, some (.long x5), none, some (.long x7), none, some (.long x9), none, some (.int (x11 ||| ((1 : Int32) <<< (x28 &&& 31)))), some (.int x12), some (.int x13), some (.int (x14 + (1 : Int32))), some (.int x15), some (.int x16), some (.int x17), some (.int x18), none, some (.int x20), none, none, none, none, some (.int x25), some (.long x26), none, some (.int x28), some (.int x29), none, none]) (st' := [.int (1 : Int32), .int x28]) rfl ?_
          refine wpl_icmp (a := 636) (b := 629) rfl (by decide) rfl rfl (wpl_br (p := x28 = (1 : Int32)) ⟨fun hc186 => ?_, fun hc186 => ?_⟩)
          · refine wpl_sl (n := 3) (pc' := 653) (ls' := [some (.ref 0), some (.int x1), some (.ref 1), some (.long x3), none, some (.long x26), none, some (.long x7), none, some (.long x9), none, some (.int (x11 ||| ((1 : Int32) <<< (x28 &&& 31)))), some (.int x12), some (.int x13), some (.int (x14 + (1 : Int32))), some (.int x15), some (.int x16), some (.int x17), some (.int x18), none, some (.int x20), none, none, none, none, some (.int x25), some (.long x26), none, some (.int x28), some (.int x29), none, none]) (st' := []) rfl ?_
            first | exact hm132 _ (by simp only [if_neg hc183, if_pos hc184, if_neg hc185, if_pos hc186]) _ (by simp only [if_neg hc183, if_pos hc184, if_neg hc185, if_pos hc186]) _ (by simp only [if_neg hc183, if_pos hc184, if_neg hc185, if_pos hc186]) _ (by simp only [if_neg hc183, if_pos hc184, if_neg hc185, if_pos hc186]) _ (by simp only [if_neg hc183, if_pos hc184, if_neg hc185, if_pos hc186]) _ (by simp only [if_neg hc183, if_pos hc184, if_neg hc185, if_pos hc186]) _ (by simp only [if_neg hc183, if_pos hc184, if_neg hc185, if_pos hc186]) | exact wpl_lle (by repeat (first | exact trivial | refine ⟨rfl, ?_⟩)) (hm132 _ (by simp only [if_neg hc183, if_pos hc184, if_neg hc185, if_pos hc186]) _ (by simp only [if_neg hc183, if_pos hc184, if_neg hc185, if_pos hc186]) _ (by simp only [if_neg hc183, if_pos hc184, if_neg hc185, if_pos hc186]) _ (by simp only [if_neg hc183, if_pos hc184, if_neg hc185, if_pos hc186]) _ (by simp only [if_neg hc183, if_pos hc184, if_neg hc185, if_pos hc186]) _ (by simp only [if_neg hc183, if_pos hc184, if_neg hc185, if_pos hc186]) _ (by simp only [if_neg hc183, if_pos hc184, if_neg hc185, if_pos hc186]))
          · refine wpl_sl (n := 2) (pc' := 639) (ls' := [some (.ref 0), some (.int x1), some (.ref 1), some (.long x3), none, some (.long x5), none, some (.long x7), none, some (.long x9), none, some (.int (x11 ||| ((1 : Int32) <<< (x28 &&& 31)))), some (.int x12), some (.int x13), some (.int (x14 + (1 : Int32))), some (.int x15), some (.int x16), some (.int x17), some (.int x18), none, some (.int x20), none, none, none, none, some (.int x25), some (.long x26), none, some (.int x28), some (.int x29), none, none]) (st' := [.int (2 : Int32), .int x28]) rfl ?_
            refine wpl_icmp (a := 649) (b := 642) rfl (by decide) rfl rfl (wpl_br (p := x28 = (2 : Int32)) ⟨fun hc187 => ?_, fun hc187 => ?_⟩)
            · refine wpl_sl (n := 3) (pc' := 653) (ls' := [some (.ref 0), some (.int x1), some (.ref 1), some (.long x3), none, some (.long x5), none, some (.long x26), none, some (.long x9), none, some (.int (x11 ||| ((1 : Int32) <<< (x28 &&& 31)))), some (.int x12), some (.int x13), some (.int (x14 + (1 : Int32))), some (.int x15), some (.int x16), some (.int x17), some (.int x18), none, some (.int x20), none, none, none, none, some (.int x25), some (.long x26), none, some (.int x28), some (.int x29), none, none]) (st' := []) rfl ?_
              first | exact hm132 _ (by simp only [if_neg hc183, if_pos hc184, if_neg hc185, if_neg hc186, if_pos hc187]) _ (by simp only [if_neg hc183, if_pos hc184, if_neg hc185, if_neg hc186, if_pos hc187]) _ (by simp only [if_neg hc183, if_pos hc184, if_neg hc185, if_neg hc186, if_pos hc187]) _ (by simp only [if_neg hc183, if_pos hc184, if_neg hc185, if_neg hc186, if_pos hc187]) _ (by simp only [if_neg hc183, if_pos hc184, if_neg hc185, if_neg hc186, if_pos hc187]) _ (by simp only [if_neg hc183, if_pos hc184, if_neg hc185, if_neg hc186, if_pos hc187]) _ (by simp only [if_neg hc183, if_pos hc184, if_neg hc185, if_neg hc186, if_pos hc187]) | exact wpl_lle (by repeat (first | exact trivial | refine ⟨rfl, ?_⟩)) (hm132 _ (by simp only [if_neg hc183, if_pos hc184, if_neg hc185, if_neg hc186, if_pos hc187]) _ (by simp only [if_neg hc183, if_pos hc184, if_neg hc185, if_neg hc186, if_pos hc187]) _ (by simp only [if_neg hc183, if_pos hc184, if_neg hc185, if_neg hc186, if_pos hc187]) _ (by simp only [if_neg hc183, if_pos hc184, if_neg hc185, if_neg hc186, if_pos hc187]) _ (by simp only [if_neg hc183, if_pos hc184, if_neg hc185, if_neg hc186, if_pos hc187]) _ (by simp only [if_neg hc183, if_pos hc184, if_neg hc185, if_neg hc186, if_pos hc187]) _ (by simp only [if_neg hc183, if_pos hc184, if_neg hc185, if_neg hc186, if_pos hc187]))
            · refine wpl_sl (n := 2) (pc' := 653) (ls' := [some (.ref 0), some (.int x1), some (.ref 1), some (.long x3), none, some (.long x5), none, some (.long x7), none, some (.long x26), none, some (.int (x11 ||| ((1 : Int32) <<< (x28 &&& 31)))), some (.int x12), some (.int x13), some (.int (x14 + (1 : Int32))), some (.int x15), some (.int x16), some (.int x17), some (.int x18), none, some (.int x20), none, none, none, none, some (.int x25), some (.long x26), none, some (.int x28), some (.int x29), none, none]) (st' := []) rfl ?_
              first | exact hm132 _ (by simp only [if_neg hc183, if_pos hc184, if_neg hc185, if_neg hc186, if_neg hc187]) _ (by simp only [if_neg hc183, if_pos hc184, if_neg hc185, if_neg hc186, if_neg hc187]) _ (by simp only [if_neg hc183, if_pos hc184, if_neg hc185, if_neg hc186, if_neg hc187]) _ (by simp only [if_neg hc183, if_pos hc184, if_neg hc185, if_neg hc186, if_neg hc187]) _ (by simp only [if_neg hc183, if_pos hc184, if_neg hc185, if_neg hc186, if_neg hc187]) _ (by simp only [if_neg hc183, if_pos hc184, if_neg hc185, if_neg hc186, if_neg hc187]) _ (by simp only [if_neg hc183, if_pos hc184, if_neg hc185, if_neg hc186, if_neg hc187]) | exact wpl_lle (by repeat (first | exact trivial | refine ⟨rfl, ?_⟩)) (hm132 _ (by simp only [if_neg hc183, if_pos hc184, if_neg hc185, if_neg hc186, if_neg hc187]) _ (by simp only [if_neg hc183, if_pos hc184, if_neg hc185, if_neg hc186, if_neg hc187]) _ (by simp only [if_neg hc183, if_pos hc184, if_neg hc185, if_neg hc186, if_neg hc187]) _ (by simp only [if_neg hc183, if_pos hc184, if_neg hc185, if_neg hc186, if_neg hc187]) _ (by simp only [if_neg hc183, if_pos hc184, if_neg hc185, if_neg hc186, if_neg hc187]) _ (by simp only [if_neg hc183, if_pos hc184, if_neg hc185, if_neg hc186, if_neg hc187]) _ (by simp only [if_neg hc183, if_pos hc184, if_neg hc185, if_neg hc186, if_neg hc187]))
      · refine wpl_sl (n := 2) (pc' := 614) (ls' := [some (.ref 0), some (.int x1), some (.ref 1), some (.long x3), none, some (.long x5), none, some (.long x7), none, some (.long x9), none, some (.int (x11 ||| ((1 : Int32) <<< (x28 &&& 31)))), some (.int x12), some (.int x13), some (.int x14), some (.int (x15 + (1 : Int32))), some (.int x16), some (.int x17), some (.int x18), none, some (.int x20), none, none, none, none, some (.int x25), some (.long x26), none, some (.int x28), some (.int x29), none, none]) (st' := [.int x28]) rfl ?_
        refine wpl_if (a := 623) (b := 617) rfl (by decide) rfl rfl (wpl_br (p := x28 = (0 : Int32)) ⟨fun hc188 => ?_, fun hc188 => ?_⟩)
        · refine wpl_sl (n := 3) (pc' := 653) (ls' := [some (.ref 0), some (.int x1), some (.ref 1), some (.long x26), none, some (.long x5), none, some (.long x7), none, some (.long x9), none, some (.int (x11 ||| ((1 : Int32) <<< (x28 &&& 31)))), some (.int x12), some (.int x13), some (.int x14), some (.int (x15 + (1 : Int32))), some (.int x16), some (.int x17), some (.int x18), none, some (.int x20), none, none, none, none, some (.int x25), some (.long x26), none, some (.int x28), some (.int x29), none, none]) (st' := []) rfl ?_
          first | exact hm132 _ (by simp only [if_neg hc183, if_neg hc184, if_pos hc188]) _ (by simp only [if_neg hc183, if_neg hc184, if_pos hc188]) _ (by simp only [if_neg hc183, if_neg hc184, if_pos hc188]) _ (by simp only [if_neg hc183, if_neg hc184, if_pos hc188]) _ (by simp only [if_neg hc183, if_neg hc184, if_pos hc188]) _ (by simp only [if_neg hc183, if_neg hc184, if_pos hc188]) _ (by simp only [if_neg hc183, if_neg hc184, if_pos hc188]) | exact wpl_lle (by repeat (first | exact trivial | refine ⟨rfl, ?_⟩)) (hm132 _ (by simp only [if_neg hc183, if_neg hc184, if_pos hc188]) _ (by simp only [if_neg hc183, if_neg hc184, if_pos hc188]) _ (by simp only [if_neg hc183, if_neg hc184, if_pos hc188]) _ (by simp only [if_neg hc183, if_neg hc184, if_pos hc188]) _ (by simp only [if_neg hc183, if_neg hc184, if_pos hc188]) _ (by simp only [if_neg hc183, if_neg hc184, if_pos hc188]) _ (by simp only [if_neg hc183, if_neg hc184, if_pos hc188]))
        · refine wpl_sl (n := 2) (pc' := 626) (ls' := [some (.ref 0), some (.int x1), some (.ref 1), some (.long x3), none, some (.long x5), none, some (.long x7), none, some (.long x9), none, some (.int (x11 ||| ((1 : Int32) <<< (x28 &&& 31)))), some (.int x12), some (.int x13), some (.int x14), some (.int (x15 + (1 : Int32))), some (.int x16), some (.int x17), some (.int x18), none, some (.int x20), none, none, none, none, some (.int x25), some (.long x26), none, some (.int x28), some (.int x29), none, none]) (st' := [.int (1 : Int32), .int x28]) rfl ?_
          refine wpl_icmp (a := 636) (b := 629) rfl (by decide) rfl rfl (wpl_br (p := x28 = (1 : Int32)) ⟨fun hc189 => ?_, fun hc189 => ?_⟩)
          · refine wpl_sl (n := 3) (pc' := 653) (ls' := [some (.ref 0), some (.int x1), some (.ref 1), some (.long x3), none, some (.long x26), none, some (.long x7), none, some (.long x9), none, some (.int (x11 ||| ((1 : Int32) <<< (x28 &&& 31)))), some (.int x12), some (.int x13), some (.int x14), some (.int (x15 + (1 : Int32))), some (.int x16), some (.int x17), some (.int x18), none, some (.int x20), none, none, none, none, some (.int x25), some (.long x26), none, some (.int x28), some (.int x29), none, none]) (st' := []) rfl ?_
            first | exact hm132 _ (by simp only [if_neg hc183, if_neg hc184, if_neg hc188, if_pos hc189]) _ (by simp only [if_neg hc183, if_neg hc184, if_neg hc188, if_pos hc189]) _ (by simp only [if_neg hc183, if_neg hc184, if_neg hc188, if_pos hc189]) _ (by simp only [if_neg hc183, if_neg hc184, if_neg hc188, if_pos hc189]) _ (by simp only [if_neg hc183, if_neg hc184, if_neg hc188, if_pos hc189]) _ (by simp only [if_neg hc183, if_neg hc184, if_neg hc188, if_pos hc189]) _ (by simp only [if_neg hc183, if_neg hc184, if_neg hc188, if_pos hc189]) | exact wpl_lle (by repeat (first | exact trivial | refine ⟨rfl, ?_⟩)) (hm132 _ (by simp only [if_neg hc183, if_neg hc184, if_neg hc188, if_pos hc189]) _ (by simp only [if_neg hc183, if_neg hc184, if_neg hc188, if_pos hc189]) _ (by simp only [if_neg hc183, if_neg hc184, if_neg hc188, if_pos hc189]) _ (by simp only [if_neg hc183, if_neg hc184, if_neg hc188, if_pos hc189]) _ (by simp only [if_neg hc183, if_neg hc184, if_neg hc188, if_pos hc189]) _ (by simp only [if_neg hc183, if_neg hc184, if_neg hc188, if_pos hc189]) _ (by simp only [if_neg hc183, if_neg hc184, if_neg hc188, if_pos hc189]))
          · refine wpl_sl (n := 2) (pc' := 639) (ls' := [some (.ref 0), some (.int x1), some (.ref 1), some (.long x3), none, some (.long x5), none, some (.long x7), none, some (.long x9), none, some (.int (x11 ||| ((1 : Int32) <<< (x28 &&& 31)))), some (.int x12), some (.int x13), some (.int x14), some (.int (x15 + (1 : Int32))), some (.int x16), some (.int x17), some (.int x18), none, some (.int x20), none, none, none, none, some (.int x25), some (.long x26), none, some (.int x28), some (.int x29), none, none]) (st' := [.int (2 : Int32), .int x28]) rfl ?_
            refine wpl_icmp (a := 649) (b := 642) rfl (by decide) rfl rfl (wpl_br (p := x28 = (2 : Int32)) ⟨fun hc190 => ?_, fun hc190 => ?_⟩)
            · refine wpl_sl (n := 3) (pc' := 653) (ls' := [some (.ref 0), some (.int x1), some (.ref 1), some (.long x3), none, some (.long x5), none, some (.long x26), none, some (.long x9), none, some (.int (x11 ||| ((1 : Int32) <<< (x28 &&& 31)))), some (.int x12), some (.int x13), some (.int x14), some (.int (x15 + (1 : Int32))), some (.int x16), some (.int x17), some (.int x18), none, some (.int x20), none, none, none, none, some (.int x25), some (.long x26), none, some (.int x28), some (.int x29), none, none]) (st' := []) rfl ?_
              first | exact hm132 _ (by simp only [if_neg hc183, if_neg hc184, if_neg hc188, if_neg hc189, if_pos hc190]) _ (by simp only [if_neg hc183, if_neg hc184, if_neg hc188, if_neg hc189, if_pos hc190]) _ (by simp only [if_neg hc183, if_neg hc184, if_neg hc188, if_neg hc189, if_pos hc190]) _ (by simp only [if_neg hc183, if_neg hc184, if_neg hc188, if_neg hc189, if_pos hc190]) _ (by simp only [if_neg hc183, if_neg hc184, if_neg hc188, if_neg hc189, if_pos hc190]) _ (by simp only [if_neg hc183, if_neg hc184, if_neg hc188, if_neg hc189, if_pos hc190]) _ (by simp only [if_neg hc183, if_neg hc184, if_neg hc188, if_neg hc189, if_pos hc190]) | exact wpl_lle (by repeat (first | exact trivial | refine ⟨rfl, ?_⟩)) (hm132 _ (by simp only [if_neg hc183, if_neg hc184, if_neg hc188, if_neg hc189, if_pos hc190]) _ (by simp only [if_neg hc183, if_neg hc184, if_neg hc188, if_neg hc189, if_pos hc190]) _ (by simp only [if_neg hc183, if_neg hc184, if_neg hc188, if_neg hc189, if_pos hc190]) _ (by simp only [if_neg hc183, if_neg hc184, if_neg hc188, if_neg hc189, if_pos hc190]) _ (by simp only [if_neg hc183, if_neg hc184, if_neg hc188, if_neg hc189, if_pos hc190]) _ (by simp only [if_neg hc183, if_neg hc184, if_neg hc188, if_neg hc189, if_pos hc190]) _ (by simp only [if_neg hc183, if_neg hc184, if_neg hc188, if_neg hc189, if_pos hc190]))
            · refine wpl_sl (n := 2) (pc' := 653) (ls' := [some (.ref 0), some (.int x1), some (.ref 1), some (.long x3), none, some (.long x5), none, some (.long x7), none, some (.long x26), none, some (.int (x11 ||| ((1 : Int32) <<< (x28 &&& 31)))), some (.int x12), some (.int x13), some (.int x14), some (.int (x15 + (1 : Int32))), some (.int x16), some (.int x17), some (.int x18), none, some (.int x20), none, none, none, none, some (.int x25), some (.long x26), none, some (.int x28), some (.int x29), none, none]) (st' := []) rfl ?_
              first | exact hm132 _ (by simp only [if_neg hc183, if_neg hc184, if_neg hc188, if_neg hc189, if_neg hc190]) _ (by simp only [if_neg hc183, if_neg hc184, if_neg hc188, if_neg hc189, if_neg hc190]) _ (by simp only [if_neg hc183, if_neg hc184, if_neg hc188, if_neg hc189, if_neg hc190]) _ (by simp only [if_neg hc183, if_neg hc184, if_neg hc188, if_neg hc189, if_neg hc190]) _ (by simp only [if_neg hc183, if_neg hc184, if_neg hc188, if_neg hc189, if_neg hc190]) _ (by simp only [if_neg hc183, if_neg hc184, if_neg hc188, if_neg hc189, if_neg hc190]) _ (by simp only [if_neg hc183, if_neg hc184, if_neg hc188, if_neg hc189, if_neg hc190]) | exact wpl_lle (by repeat (first | exact trivial | refine ⟨rfl, ?_⟩)) (hm132 _ (by simp only [if_neg hc183, if_neg hc184, if_neg hc188, if_neg hc189, if_neg hc190]) _ (by simp only [if_neg hc183, if_neg hc184, if_neg hc188, if_neg hc189, if_neg hc190]) _ (by simp only [if_neg hc183, if_neg hc184, if_neg hc188, if_neg hc189, if_neg hc190]) _ (by simp only [if_neg hc183, if_neg hc184, if_neg hc188, if_neg hc189, if_neg hc190]) _ (by simp only [if_neg hc183, if_neg hc184, if_neg hc188, if_neg hc189, if_neg hc190]) _ (by simp only [if_neg hc183, if_neg hc184, if_neg hc188, if_neg hc189, if_neg hc190]) _ (by simp only [if_neg hc183, if_neg hc184, if_neg hc188, if_neg hc189, if_neg hc190]))
  · have h124 := h.2 hc122
    refine wpl_sl (n := 1) (pc' := 583) (ls' := [some (.ref 0), some (.int x1), some (.ref 1), some (.long x3), none, some (.long x5), none, some (.long x7), none, some (.long x9), none, some (.int x11), some (.int x12), some (.int x13), some (.int x14), some (.int x15), some (.int x16), some (.int x17), some (.int x18), none, some (.int x20), none, none, none, none, some (.int x25), some (.long x26), none, some (.int x28), some (.int x29), none, none]) (st' := [.int (0 : Int32)]) rfl ?_
    exact wpl_ret rfl rfl rfl ⟨(0 : Int32), rfl, h124⟩
theorem l0_322 (N : Nat) (sg : Nat → Int32) (x1 : Int32) (x3 : Int64) (x5 : Int64) (x7 : Int64) (x9 : Int64) (x11 : Int32) (x12 : Int32) (x13 : Int32) (x14 : Int32) (x15 : Int32) (x16 : Int32) (x17 : Int32) (x18 : Int32) (x20 : Int32) (x21 : Int32) (x23 : Int32) (x24 : Int32) (x25 : Int32) (x26 : Int64) (x28 : Int32)  (Q : Int32 → Wd → Prop) (h : ∀ m191, m191 = (if x25 = x1 then (if (3 : Int32) < x24 then (-4 : Int32) else x25) else x25) → (calI PP 6 16 [.ref 0, .int x20, .int x21, .int x24, .int x23] s (fun v195 s194 => ((m191 = x1) → lalL PP QQ (some (N, sg)) 3 [.long x26, .int x24, .int x23] (W1 s194) (fun v201 w200 => ∃ s203, w200 = W1 s203 ∧ (wplI PP QQ (some (N, sg)) 0 lm0 575 [some (.ref 0), some (.int x1), some (.ref 1), some (.long x3), none, some (.long x5), none, some (.long x7), none, some (.long x9), none, some (.int x11), some (.int x12), some (.int x13), some (.int x14), some (.int x15), some (.int x16), some (.int x17), some (.int x18), none, some (.int x20), none, none, none, none, some (.int m191), some (.long v201), none, some (.int x21), some (.int v195), none, none] [] (W1 s203) Q))) ∧ (¬ (m191 = x1) → wplI PP QQ (some (N, sg)) 0 lm0 575 [some (.ref 0), some (.int x1), some (.ref 1), some (.long x3), none, some (.long x5), none, some (.long x7), none, some (.long x9), none, some (.int x11), some (.int x12), some (.int x13), some (.int x14), some (.int x15), some (.int x16), some (.int x17), some (.int x18), none, some (.int x20), none, none, none, none, some (.int m191), some (.long x26), none, some (.int x28), some (.int v195), none, none] [] (W1 s194) Q)))) : wplI PP QQ (some (N, sg)) 0 lm0 322 [some (.ref 0), some (.int x1), some (.ref 1), some (.long x3), none, some (.long x5), none, some (.long x7), none, some (.long x9), none, some (.int x11), some (.int x12), some (.int x13), some (.int x14), some (.int x15), some (.int x16), some (.int x17), some (.int x18), none, some (.int x20), some (.int x21), none, some (.int x23), some (.int x24), some (.int x25), some (.long x26), none, some (.int x28), none, none, none] [] (W1 s) Q := by
  refine wpl_sl (n := 2) (pc' := 325) (ls' := [some (.ref 0), some (.int x1), some (.ref 1), some (.long x3), none, some (.long x5), none, some (.long x7), none, some (.long x9), none, some (.int x11), some (.int x12), some (.int x13), some (.int x14), some (.int x15), some (.int x16), some (.int x17), some (.int x18), none, some (.int x20), some (.int x21), none, some (.int x23), some (.int x24), some (.int x25), some (.long x26), none, some (.int x28), none, none, none]) (st' := [.int x1, .int x25]) rfl ?_
  have hm192 : ∀ m191, m191 = (if x25 = x1 then (if (3 : Int32) < x24 then (-4 : Int32) else x25) else x25) → wplI PP QQ (some (N, sg)) 0 lm0 338 [some (.ref 0), some (.int x1), some (.ref 1), some (.long x3), none, some (.long x5), none, some (.long x7), none, some (.long x9), none, some (.int x11), some (.int x12), some (.int x13), some (.int x14), some (.int x15), some (.int x16), some (.int x17), some (.int x18), none, some (.int x20), some (.int x21), none, some (.int x23), some (.int x24), some (.int m191), some (.long x26), none, some (.int x28), none, none, none] [] (W1 s) Q := by
    intro m191 em191
    have h193 := h m191 em191
    refine wpl_sl (n := 5) (pc' := 347) (ls' := [some (.ref 0), some (.int x1), some (.ref 1), some (.long x3), none, some (.long x5), none, some (.long x7), none, some (.long x9), none, some (.int x11), some (.int x12), some (.int x13), some (.int x14), some (.int x15), some (.int x16), some (.int x17), some (.int x18), none, some (.int x20), some (.int x21), none, some (.int x23), some (.int x24), some (.int m191), some (.long x26), none, some (.int x28), none, none, none]) (st' := [.int x23, .int x24, .int x21, .int x20, .ref 1]) rfl ?_
    refine wpl_v1 (m' := 6) (me' := cm6) (as := [.int x20, .int x21, .int x24, .int x23]) (r := []) rfl rfl rfl rfl rfl ⟨by decide, (by first | decide | exact Nat.le_of_ble_eq_true rfl), (by first | decide | exact Nat.le_of_ble_eq_true rfl), rfl⟩ (cal_I (calI.mono h193 fun v195 s194 h196 => ?_))
    refine wpl_sl (n := 3) (pc' := 355) (ls' := [some (.ref 0), some (.int x1), some (.ref 1), some (.long x3), none, some (.long x5), none, some (.long x7), none, some (.long x9), none, some (.int x11), some (.int x12), some (.int x13), some (.int x14), some (.int x15), some (.int x16), some (.int x17), some (.int x18), none, some (.int x20), some (.int x21), none, some (.int x23), some (.int x24), some (.int m191), some (.long x26), none, some (.int x28), some (.int v195), none, none]) (st' := [.int x1, .int m191]) rfl ?_
    refine wpl_icmp (a := 575) (b := 358) rfl (by decide) rfl rfl (wpl_br (p := m191 = x1) ⟨fun hc197 => ?_, fun hc197 => ?_⟩)
    · have h198 := h196.1 hc197
      refine wpl_sl (n := 3) (pc' := 364) (ls' := [some (.ref 0), some (.int x1), some (.ref 1), some (.long x3), none, some (.long x5), none, some (.long x7), none, some (.long x9), none, some (.int x11), some (.int x12), some (.int x13), some (.int x14), some (.int x15), some (.int x16), some (.int x17), some (.int x18), none, some (.int x20), some (.int x21), none, some (.int x23), some (.int x24), some (.int m191), some (.long x26), none, some (.int x28), some (.int v195), none, none]) (st' := [.int x23, .int x24, .long x26]) rfl ?_
      refine wpl_stat (m' := 3) (me' := lm3) (as := [.long x26, .int x24, .int x23]) (r := []) rfl rfl rfl rfl rfl ⟨(by first | decide | exact Nat.le_of_ble_eq_true rfl), (by first | decide | exact Nat.le_of_ble_eq_true rfl), (by first | decide | exact Nat.le_of_ble_eq_true rfl), (by first | decide | exact Nat.le_of_ble_eq_true rfl), rfl⟩ (lal_L (lalL.mono h198 fun v201 w200 hh => ?_))
      obtain ⟨s203, rfl, h202⟩ := hh
      refine wpl_sl (n := 4) (pc' := 575) (ls' := [some (.ref 0), some (.int x1), some (.ref 1), some (.long x3), none, some (.long x5), none, some (.long x7), none, some (.long x9), none, some (.int x11), some (.int x12), some (.int x13), some (.int x14), some (.int x15), some (.int x16), some (.int x17), some (.int x18), none, some (.int x20), some (.int x21), none, some (.int x23), some (.int x24), some (.int m191), some (.long v201), none, some (.int x21), some (.int v195), none, none]) (st' := []) rfl ?_
      exact wpl_lle (ls := [some (.ref 0), some (.int x1), some (.ref 1), some (.long x3), none, some (.long x5), none, some (.long x7), none, some (.long x9), none, some (.int x11), some (.int x12), some (.int x13), some (.int x14), some (.int x15), some (.int x16), some (.int x17), some (.int x18), none, some (.int x20), none, none, none, none, some (.int m191), some (.long v201), none, some (.int x21), some (.int v195), none, none]) ⟨rfl, rfl, rfl, rfl, rfl, rfl, rfl, rfl, rfl, rfl, rfl, rfl, rfl, rfl, rfl, rfl, rfl, rfl, rfl, rfl, trivial⟩ h202
    · have h199 := h196.2 hc197
      exact wpl_lle (ls := [some (.ref 0), some (.int x1), some (.ref 1), some (.long x3), none, some (.long x5), none, some (.long x7), none, some (.long x9), none, some (.int x11), some (.int x12), some (.int x13), some (.int x14), some (.int x15), some (.int x16), some (.int x17), some (.int x18), none, some (.int x20), none, none, none, none, some (.int m191), some (.long x26), none, some (.int x28), some (.int v195), none, none]) ⟨rfl, rfl, rfl, rfl, rfl, rfl, rfl, rfl, rfl, rfl, rfl, rfl, rfl, rfl, rfl, rfl, rfl, rfl, rfl, rfl, trivial⟩ h199
  refine wpl_icmp (a := 338) (b := 328) rfl (by decide) rfl rfl (wpl_br (p := x25 = x1) ⟨fun hc204 => ?_, fun hc204 => ?_⟩)
  · refine wpl_sl (n := 2) (pc' := 331) (ls' := [some (.ref 0), some (.int x1), some (.ref 1), some (.long x3), none, some (.long x5), none, some (.long x7), none, some (.long x9), none, some (.int x11), some (.int x12), some (.int x13), some (.int x14), some (.int x15), some (.int x16), some (.int x17), some (.int x18), none, some (.int x20), some (.int x21), none, some (.int x23), some (.int x24), some (.int x25), some (.long x26), none, some (.int x28), none, none, none]) (st' := [.int (3 : Int32), .int x24]) rfl ?_
    refine wpl_icmp (a := 338) (b := 334) rfl (by decide) rfl rfl (wpl_br (p := (3 : Int32) < x24) ⟨fun hc205 => ?_, fun hc205 => ?_⟩)
    · refine wpl_sl (n := 2) (pc' := 338) (ls' := [some (.ref 0), some (.int x1), some (.ref 1), some (.long x3), none, some (.long x5), none, some (.long x7), none, some (.long x9), none, some (.int x11), some (.int x12), some (.int x13), some (.int x14), some (.int x15), some (.int x16), some (.int x17), some (.int x18), none, some (.int x20), some (.int x21), none, some (.int x23), some (.int x24), some (.int (-4 : Int32)), some (.long x26), none, some (.int x28), none, none, none]) (st' := []) rfl ?_
      first | exact hm192 _ (by simp only [if_pos hc204, if_pos hc205]) | exact wpl_lle (by repeat (first | exact trivial | refine ⟨rfl, ?_⟩)) (hm192 _ (by simp only [if_pos hc204, if_pos hc205]))
    · first | exact hm192 _ (by simp only [if_pos hc204, if_neg hc205]) | exact wpl_lle (by repeat (first | exact trivial | refine ⟨rfl, ?_⟩)) (hm192 _ (by simp only [if_pos hc204, if_neg hc205]))
  · first | exact hm192 _ (by simp only [if_neg hc204]) | exact wpl_lle (by repeat (first | exact trivial | refine ⟨rfl, ?_⟩)) (hm192 _ (by simp only [if_neg hc204]))
theorem l0_545 (N : Nat) (sg : Nat → Int32) (x1 : Int32) (x3 : Int64) (x5 : Int64) (x7 : Int64) (x9 : Int64) (x11 : Int32) (x12 : Int32) (x13 : Int32) (x14 : Int32) (x15 : Int32) (x16 : Int32) (x17 : Int32) (x18 : Int32) (x20 : Int32) (x21 : Int32) (x25 : Int32) (x26 : Int64) (x28 : Int32) (x29 : Int32)  (Q : Int32 → Wd → Prop) (h : ∀ m206, m206 = (if x25 = x1 then (x11 &&& (((1 : Int32) <<< (x21 &&& 31)) ^^^ (-1 : Int32))) else x11) → (wplI PP QQ (some (N, sg)) 0 lm0 575 [some (.ref 0), some (.int x1), some (.ref 1), some (.long x3), none, some (.long x5), none, some (.long x7), none, some (.long x9), none, some (.int m206), some (.int x12), some (.int x13), some (.int x14), some (.int x15), some (.int x16), some (.int x17), some (.int x18), none, some (.int x20), none, none, none, none, some (.int x25), some (.long x26), none, some (.int x28), some (.int x29), none, none] [] (W1 s) Q)) : wplI PP QQ (some (N, sg)) 0 lm0 545 [some (.ref 0), some (.int x1), some (.ref 1), some (.long x3), none, some (.long x5), none, some (.long x7), none, some (.long x9), none, some (.int x11), some (.int x12), some (.int x13), some (.int x14), some (.int x15), some (.int x16), some (.int x17), some (.int x18), none, some (.int x20), some (.int x21), none, none, none, some (.int x25), some (.long x26), none, some (.int x28), some (.int x29), none, none] [] (W1 s) Q := by
  refine wpl_sl (n := 2) (pc' := 548) (ls' := [some (.ref 0), some (.int x1), some (.ref 1), some (.long x3), none, some (.long x5), none, some (.long x7), none, some (.long x9), none, some (.int x11), some (.int x12), some (.int x13), some (.int x14), some (.int x15), some (.int x16), some (.int x17), some (.int x18), none, some (.int x20), some (.int x21), none, none, none, some (.int x25), some (.long x26), none, some (.int x28), some (.int x29), none, none]) (st' := [.int x1, .int x25]) rfl ?_
  have hm207 : ∀ m206, m206 = (if x25 = x1 then (x11 &&& (((1 : Int32) <<< (x21 &&& 31)) ^^^ (-1 : Int32))) else x11) → wplI PP QQ (some (N, sg)) 0 lm0 575 [some (.ref 0), some (.int x1), some (.ref 1), some (.long x3), none, some (.long x5), none, some (.long x7), none, some (.long x9), none, some (.int m206), some (.int x12), some (.int x13), some (.int x14), some (.int x15), some (.int x16), some (.int x17), some (.int x18), none, some (.int x20), some (.int x21), none, none, none, some (.int x25), some (.long x26), none, some (.int x28), some (.int x29), none, none] [] (W1 s) Q := by
    intro m206 em206
    have h208 := h m206 em206
    exact wpl_lle (ls := [some (.ref 0), some (.int x1), some (.ref 1), some (.long x3), none, some (.long x5), none, some (.long x7), none, some (.long x9), none, some (.int m206), some (.int x12), some (.int x13), some (.int x14), some (.int x15), some (.int x16), some (.int x17), some (.int x18), none, some (.int x20), none, none, none, none, some (.int x25), some (.long x26), none, some (.int x28), some (.int x29), none, none]) ⟨rfl, rfl, rfl, rfl, rfl, rfl, rfl, rfl, rfl, rfl, rfl, rfl, rfl, rfl, rfl, rfl, rfl, rfl, rfl, rfl, trivial⟩ h208
  refine wpl_icmp (a := 575) (b := 551) rfl (by decide) rfl rfl (wpl_br (p := x25 = x1) ⟨fun hc209 => ?_, fun hc209 => ?_⟩)
  · refine wpl_sl (n := 9) (pc' := 575) (ls' := [some (.ref 0), some (.int x1), some (.ref 1), some (.long x3), none, some (.long x5), none, some (.long x7), none, some (.long x9), none, some (.int (x11 &&& (((1 : Int32) <<< (x21 &&& 31)) ^^^ (-1 : Int32)))), some (.int x12), some (.int x13), some (.int x14), some (.int x15), some (.int x16), some (.int x17), some (.int x18), none, some (.int x20), some (.int x21), none, none, none, some (.int x25), some (.long x26), none, some (.int x28), some (.int x29), none, none]) (st' := []) rfl ?_
    first | exact hm207 _ (by simp only [if_pos hc209]) | exact wpl_lle (by repeat (first | exact trivial | refine ⟨rfl, ?_⟩)) (hm207 _ (by simp only [if_pos hc209]))
  · first | exact hm207 _ (by simp only [if_neg hc209]) | exact wpl_lle (by repeat (first | exact trivial | refine ⟨rfl, ?_⟩)) (hm207 _ (by simp only [if_neg hc209]))
theorem own_clamp (x lo hi : Int32) (s : St) (Q : Int32 → St → Prop) (h : Q (if x < lo then lo else if hi < x then hi else x) s) : calI PP 18 16 [.ref 0, .int x, .int lo, .int hi] s Q := by
  apply c18_in
  refine ⟨fun a => ?_, fun a => ⟨fun b => ?_, fun b => ?_⟩⟩
  · rw [if_pos a] at h; exact h
  · rw [if_neg a, if_pos b] at h; exact h
  · rw [if_neg a, if_neg b] at h; exact h
theorem own_cl_rng {x lo hi m : Int32} (h : lo.toInt ≤ hi.toInt) (e : m = if x < lo then lo else if hi < x then hi else x) : lo.toInt ≤ m.toInt ∧ m.toInt ≤ hi.toInt := by
  subst e
  split
  · omega
  · split
    · omega
    · simp only [i32_lt] at *; omega
/-- four cells a row -/
theorem own_x4 {k w : Int32} {N : Nat} (hk : 0 ≤ k.toInt ∧ k.toInt < N) (hN : N ≤ 32) (hw : 0 ≤ w.toInt ∧ w.toInt < 4) : (k * 4 + w).toInt = k.toInt * 4 + w.toInt ∧ ix (k * 4 + w) = 4 * ix k + ix w := by
  have e1 : (k * 4).toInt = k.toInt * 4 := by rw [i32_mul] <;> simp <;> omega
  have e2 : (k * 4 + w).toInt = k.toInt * 4 + w.toInt := by rw [i32_add, e1] <;> rw [e1] <;> omega
  have a := ix_int hk.1
  have b := ix_int hw.1
  have c := ix_int (i := k * 4 + w) (by omega)
  exact ⟨e2, by omega⟩
/-- pickNext -/
theorem own_38 (s : St) (n : Nat) (hn : (gI s 0 30).toInt = n) (h16 : n ≤ 16) (Q : Int32 → St → Prop) (h0 : n = 0 → ∀ v, v < 0 → Q v s) (h1 : ∀ i : Int32, 0 ≤ i.toInt → i.toInt < n → Q i s) : calI PP 38 16 [.ref 0] s Q := by
  apply c38_in
  refine loop_up (F := fun i => ∀ x y : Int32, (x.toInt = -1 ∨ (0 ≤ x.toInt ∧ x.toInt < i.toInt)) → (i.toInt = 0 → y = -1) → (0 < i.toInt → 0 ≤ y.toInt ∧ y.toInt < i.toInt) → wpcI PP 38 cm38 16 6 [some (.ref 0), some (.int x), some (.int y), some (.int i), none] [] s Q) n (by omega) (fun i i0 i1 e ih x y hx hy hz => ?_) (fun i hi x y hx hy hz => ?_) 0 (by decide) (by simp) (-1) (-1) (Or.inl (by decide)) (fun _ => rfl) (fun q => absurd q (by decide))
  · have ib : inb 16 i := ⟨i0, by show _ < (16 : Int); omega⟩
    have go : ∀ x' v : Int32, (x'.toInt = -1 ∨ (0 ≤ x'.toInt ∧ x'.toInt < i.toInt + 1)) → wpcI PP 38 cm38 16 48 [some (.ref 0), some (.int x'), some (.int y), some (.int i), some (.int v)] [] s Q := by
      intro x' v hx'
      refine c38_48 _ _ _ _ _ _ ⟨fun q => ih x' i (hx'.imp id (fun q => by omega)) (fun q => by omega) (fun _ => by omega), fun q => ?_⟩
      have yp : 0 < i.toInt := by
        rcases Int.lt_or_eq_of_le i0 with a | a
        · exact a
        · rw [hy a.symm] at q; exact absurd (by decide) q
      have yb := hz yp
      refine ⟨⟨yb.1, by show _ < (16 : Int); omega⟩, fun m em => ih x' m (hx'.imp id (fun q => by omega)) (fun q => by omega) (fun _ => ?_)⟩
      rw [em]; split <;> omega
    refine c38_6 _ _ _ _ _ ⟨fun _ => ⟨ib, fun _ => go x _ (hx.imp id (fun q => by omega)), fun _ => ⟨fun _ => go i _ (Or.inr (by omega)), fun a => ?_⟩⟩, fun q => absurd (by rw [i32_lt, hn]; exact i1) q⟩
    have xb : 0 ≤ x.toInt ∧ x.toInt < i.toInt := by
      rcases hx with q | q
      · rw [i32_lt, q] at a; exact absurd (by decide) a
      · exact q
    refine ⟨⟨xb.1, by show _ < (16 : Int); omega⟩, fun m em => go m _ (Or.inr ?_)⟩
    rw [em]; split <;> omega
  · refine c38_6 _ _ _ _ _ ⟨fun q => absurd q (by rw [i32_lt, hn]; omega), fun _ => ⟨fun a => ?_, fun a => ?_⟩⟩
    · by_cases z : n = 0
      · have : y = -1 := hy (by omega)
        exact h0 z _ (by rw [this]; decide)
      · have := hz (by omega)
        exact h1 y this.1 (by omega)
    · rcases hx with q | q
      · rw [i32_lt, q] at a; exact absurd (by decide) a
      · exact h1 x q.1 (by omega)
/-- removeAt -/
theorem own_39 (s : St) (n : Nat) (i : Int32) (hn : (gI s 0 30).toInt = n) (h16 : n ≤ 16) (hi : 0 ≤ i.toInt ∧ i.toInt < n) (hw : ∀ j, j < n → gI s 12 j = 0 ∨ gI s 12 j = 1) (Q : St → Prop)
    (h : ∀ t, (∀ c j, c ≠ 10 → c ≠ 11 → c ≠ 12 → (c = 0 → j ≠ 30) → gI t c j = gI s c j) → (gI t 0 30).toInt = n - 1 → (∀ j, j + 1 < n → gI t 10 j = gI s 10 (if ix i ≤ j then j + 1 else j) ∧ gI t 11 j = gI s 11 (if ix i ≤ j then j + 1 else j) ∧ gI t 12 j = gI s 12 (if ix i ≤ j then j + 1 else j)) → Q t) : calV PP 39 16 [.ref 0, .int i] s Q := by
  apply c39_in
  have xi := ix_int hi.1
  refine loop_up (F := fun x => i.toInt ≤ x.toInt → ∀ u, (∀ c j, c ≠ 10 → c ≠ 11 → c ≠ 12 → gI u c j = gI s c j) → (∀ c j, (c = 10 ∨ c = 11 ∨ c = 12) → ix x ≤ j → gI u c j = gI s c j) → (∀ c j, (c = 10 ∨ c = 11 ∨ c = 12) → j < ix x → gI u c j = gI s c (if ix i ≤ j then j + 1 else j)) → wpcV PP 39 cm39 16 2 [some (.ref 0), none, some (.int x)] [] u Q) (n - 1) (by omega) (fun x x0 x1 e ih hx u ua ub uc => ?_) (fun x hx' hx u ua ub uc => ?_) i hi.1 (by omega) (Int.le_refl _) s (fun _ _ _ _ _ => rfl) (fun _ _ _ _ => rfl) (fun c j _ hj => by rw [if_neg (by omega)])
  · have xx := ix_int x0
    have xy := ix_int (i := x + 1) (by omega)
    have b0 : inb 16 x := ⟨x0, by show _ < (16 : Int); omega⟩
    have b1 : inb 16 (x + 1) := ⟨by omega, by show _ < (16 : Int); omega⟩
    have u30 : (gI u 0 30).toInt = n := by rw [ua 0 _ (by decide) (by decide) (by decide), hn]
    refine c39_2 _ _ _ ⟨fun _ => ⟨b1, b0, b1, b0, b1, b0, ?_⟩, fun q => absurd (by rw [i32_lt, u30]; omega) q⟩
    have r10 := ub 10 (ix (x + 1)) (Or.inl rfl) (by omega)
    have r11 := ub 11 (ix (x + 1)) (Or.inr (Or.inl rfl)) (by omega)
    have r12 := ub 12 (ix (x + 1)) (Or.inr (Or.inr rfl)) (by omega)
    have w12 : gI s 12 (ix (x + 1)) &&& 1 = gI s 12 (ix (x + 1)) := by
      rcases hw (ix (x + 1)) (by omega) with q | q <;> rw [q] <;> decide
    rw [r10, r11, r12, w12]
    refine ih (by omega) _ (fun c j a b d => ?_) (fun c j hc hj => ?_) (fun c j hc hj => ?_)
    · rw [gI_sI, if_neg (by omega), gI_sI, if_neg (by omega), gI_sI, if_neg (by omega), ua c j a b d]
    · rw [gI_sI, if_neg (by omega), gI_sI, if_neg (by omega), gI_sI, if_neg (by omega), ub c j hc (by omega)]
    · have e1 : ix (x + 1) = ix x + 1 := by omega
      by_cases w : j = ix x
      · subst w
        rw [if_pos (by omega), gI_sI, gI_sI, gI_sI]
        rcases hc with rfl | rfl | rfl
        · simp [e1]
        · simp [e1]
        · simp [e1]
      · rw [gI_sI, if_neg (by omega), gI_sI, if_neg (by omega), gI_sI, if_neg (by omega), uc c j hc (by omega)]
  · have xx := ix_int (i := x) (by omega)
    have e1 : (x + 1).toInt = x.toInt + 1 := by rw [i32_add] <;> simp <;> omega
    have u30 : (gI u 0 30).toInt = n := by rw [ua 0 _ (by decide) (by decide) (by decide), hn]
    have e2 : (gI u 0 30 - 1).toInt = (gI u 0 30).toInt - 1 := by rw [i32_sub] <;> simp <;> omega
    refine c39_2 _ _ _ ⟨fun q => absurd q (by rw [i32_lt, u30]; omega), fun _ => h _ (fun c j a b d f => ?_) ?_ (fun j hj => ?_)⟩
    · rw [gI_sI, if_neg (fun k => f k.1 k.2), ua c j a b d]
    · rw [gI_sI, if_pos ⟨rfl, rfl⟩, e2, u30]
    · have g : ∀ c v, c ≠ 0 → gI (sI u 0 30 v) c j = gI u c j := fun c v hc => by rw [gI_sI, if_neg (fun q => hc q.1)]
      rw [g 10 _ (by decide), g 11 _ (by decide), g 12 _ (by decide)]
      exact ⟨uc 10 j (by omega) (by omega), uc 11 j (by omega) (by omega), uc 12 j (by omega) (by omega)⟩
/-- transfer, inwards -/
theorem own_41r (s : St) (k b : Int32) (hk : 0 ≤ k.toInt ∧ k.toInt < 8) (hb : 0 ≤ b.toInt ∧ b.toInt < 32) (Q : St → Prop)
    (h : ∀ t, (∀ c j, c ≠ 3 → c ≠ 5 → c ≠ 6 → gI t c j = gI s c j) → (∀ j, gI t 5 j = if j = ix k then 1 else gI s 5 j) → (∀ j, gI t 6 j = if j = ix k then 0 else gI s 6 j) → (∀ w, w < 4 → gI t 3 (4 * ix k + w) = gI s 1 (4 * ix b + w)) → (∀ j, j < 4 * ix k ∨ 4 * ix k + 4 ≤ j → gI t 3 j = gI s 3 j) → Q t) : calV PP 41 16 [.ref 0, .int k, .int b, .int 0] s Q := by
  apply c41_in
  refine ⟨fun _ => ?_, fun q => absurd rfl q⟩
  have kb : inb 8 k := hk
  have xk := ix_int hk.1
  have xb := ix_int hb.1
  refine loop_up (F := fun x => ∀ u, (∀ c j, c ≠ 3 → gI u c j = gI s c j) → (∀ w, w < ix x → gI u 3 (4 * ix k + w) = gI s 1 (4 * ix b + w)) → (∀ j, j < 4 * ix k ∨ 4 * ix k + 4 ≤ j → gI u 3 j = gI s 3 j) → wpcV PP 41 cm41 16 62 [some (.ref 0), some (.int k), none, none, some (.int (k * 4)), some (.int (b * 4)), some (.int x)] [] u Q) 4 (by decide) (fun x x0 x1 e ih u ua uc ud => ?_) (fun x hx u ua uc ud => ?_) 0 (by decide) (by decide) s (fun _ _ _ => rfl) (fun w hw => absurd hw (by simp [ix])) (fun _ _ => rfl)
  · obtain ⟨f1, f2⟩ := own_x4 (k := k) (w := x) (N := 32) (by omega) (by decide) ⟨x0, x1⟩
    obtain ⟨g1, g2⟩ := own_x4 (k := b) (w := x) (N := 32) hb (by decide) ⟨x0, x1⟩
    have xx := ix_int x0
    have xy := ix_int (i := x + 1) (by omega)
    refine c41_62 _ _ _ _ _ _ ⟨fun _ => ⟨⟨by omega, by show _ < (128 : Int); omega⟩, ⟨by omega, by show _ < (32 : Int); omega⟩, ih _ (fun c j a => by rw [gI_sI, if_neg (fun q => a q.1), ua c j a]) (fun w hw => ?_) (fun j hj => ?_)⟩, fun q => absurd (by rw [i32_lt]; exact x1) q⟩
    · rw [gI_sI, f2, g2]
      by_cases v : w = ix x
      · rw [if_pos ⟨rfl, by omega⟩, ua 1 _ (by decide), v]
      · rw [if_neg (by omega), uc w (by omega)]
    · rw [gI_sI, f2, if_neg (by omega), ud j hj]
  · have xx := ix_int (i := x) (by omega)
    refine c41_62 _ _ _ _ _ _ ⟨fun q => absurd q (by rw [i32_lt, hx]; decide), fun _ => ⟨kb, kb, h _ (fun c j a b d => ?_) (fun j => ?_) (fun j => ?_) (fun w hw => ?_) (fun j hj => ?_)⟩⟩
    · rw [gI_sI, if_neg (fun q => d q.1), gI_sI, if_neg (fun q => b q.1), ua c j a]
    · rw [gI_sI, if_neg (by omega), gI_sI]
      by_cases v : j = ix k
      · rw [if_pos ⟨rfl, v⟩, if_pos v]
      · rw [if_neg (fun q => v q.2), if_neg v, ua 5 _ (by decide)]
    · rw [gI_sI]
      by_cases v : j = ix k
      · rw [if_pos ⟨rfl, v⟩, if_pos v]
      · rw [if_neg (fun q => v q.2), if_neg v, gI_sI, if_neg (by omega), ua 6 _ (by decide)]
    · rw [gI_sI, if_neg (by omega), gI_sI, if_neg (by omega), uc w (by omega)]
    · rw [gI_sI, if_neg (by omega), gI_sI, if_neg (by omega), ud j hj]
/-- transfer, outwards -/
theorem own_41w (s : St) (k b : Int32) (hk : 0 ≤ k.toInt ∧ k.toInt < 8) (hb : 0 ≤ b.toInt ∧ b.toInt < 32) (Q : St → Prop)
    (h : ∀ t, (∀ c j, c ≠ 1 → c ≠ 6 → gI t c j = gI s c j) → (∀ j, gI t 6 j = if j = ix k then 0 else gI s 6 j) → (∀ w, w < 4 → gI t 1 (4 * ix b + w) = gI s 3 (4 * ix k + w)) → (∀ j, j < 4 * ix b ∨ 4 * ix b + 4 ≤ j → gI t 1 j = gI s 1 j) → Q t) : calV PP 41 16 [.ref 0, .int k, .int b, .int 1] s Q := by
  apply c41_in
  refine ⟨fun q => absurd q (by decide), fun _ => ?_⟩
  have kb : inb 8 k := hk
  have xk := ix_int hk.1
  have xb := ix_int hb.1
  refine loop_up (F := fun x => ∀ u, (∀ c j, c ≠ 1 → gI u c j = gI s c j) → (∀ w, w < ix x → gI u 1 (4 * ix b + w) = gI s 3 (4 * ix k + w)) → (∀ j, j < 4 * ix b ∨ 4 * ix b + 4 ≤ j → gI u 1 j = gI s 1 j) → wpcV PP 41 cm41 16 17 [some (.ref 0), some (.int k), none, none, some (.int (k * 4)), some (.int (b * 4)), some (.int x)] [] u Q) 4 (by decide) (fun x x0 x1 e ih u ua uc ud => ?_) (fun x hx u ua uc ud => ?_) 0 (by decide) (by decide) s (fun _ _ _ => rfl) (fun w hw => absurd hw (by simp [ix])) (fun _ _ => rfl)
  · obtain ⟨f1, f2⟩ := own_x4 (k := k) (w := x) (N := 32) (by omega) (by decide) ⟨x0, x1⟩
    obtain ⟨g1, g2⟩ := own_x4 (k := b) (w := x) (N := 32) hb (by decide) ⟨x0, x1⟩
    have xx := ix_int x0
    have xy := ix_int (i := x + 1) (by omega)
    refine c41_17 _ _ _ _ _ _ ⟨fun _ => ⟨⟨by omega, by show _ < (32 : Int); omega⟩, ⟨by omega, by show _ < (128 : Int); omega⟩, ih _ (fun c j a => by rw [gI_sI, if_neg (fun q => a q.1), ua c j a]) (fun w hw => ?_) (fun j hj => ?_)⟩, fun q => absurd (by rw [i32_lt]; exact x1) q⟩
    · rw [gI_sI, f2, g2]
      by_cases v : w = ix x
      · rw [if_pos ⟨rfl, by omega⟩, ua 3 _ (by decide), v]
      · rw [if_neg (by omega), uc w (by omega)]
    · rw [gI_sI, g2, if_neg (by omega), ud j hj]
  · have xx := ix_int (i := x) (by omega)
    refine c41_17 _ _ _ _ _ _ ⟨fun q => absurd q (by rw [i32_lt, hx]; decide), fun _ => ⟨kb, h _ (fun c j a b => ?_) (fun j => ?_) (fun w hw => ?_) (fun j hj => ?_)⟩⟩
    · rw [gI_sI, if_neg (fun q => b q.1), ua c j a]
    · rw [gI_sI]
      by_cases v : j = ix k
      · rw [if_pos ⟨rfl, v⟩, if_pos v]
      · rw [if_neg (fun q => v q.2), if_neg v, ua 6 _ (by decide)]
    · rw [gI_sI, if_neg (by omega), uc w (by omega)]
    · rw [gI_sI, if_neg (by omega), ud j hj]
/-- wake -/
theorem own_42 (s : St) (k : Int32) (P : Nat) (hP : (gI s 0 16).toInt = P) (h4 : P ≤ 4) (Q : St → Prop) (h : ∀ t, (∀ c j, c ≠ 16 → gI t c j = gI s c j) → Q t) : calV PP 42 16 [.ref 0, .int k] s Q := by
  apply c42_in
  refine loop_up (F := fun x => ∀ u, (∀ c j, c ≠ 16 → gI u c j = gI s c j) → wpcV PP 42 cm42 16 2 [some (.ref 0), some (.int k), some (.int x)] [] u Q) P (by omega) (fun x x0 x1 e ih u ua => ?_) (fun x hx u ua => ?_) 0 (by decide) (by simp) s (fun _ _ _ => rfl)
  · have xb : inb 4 x := ⟨x0, by show _ < (4 : Int); omega⟩
    exact c42_2 _ _ _ _ ⟨fun _ => ⟨xb, fun _ => ⟨xb, c42_27 _ _ _ _ (ih _ fun c j a => by rw [gI_sI, if_neg (fun q => a q.1), ua c j a])⟩, fun _ => c42_27 _ _ _ _ (ih u ua)⟩, fun q => absurd (by rw [i32_lt, ua 0 _ (by decide), hP]; exact x1) q⟩
  · exact c42_2 _ _ _ _ ⟨fun q => absurd q (by rw [i32_lt, ua 0 _ (by decide), hP]; omega), fun _ => h u ua⟩

/-- how many of the first k buffers are busy -/
def own_cb (s : St) : Nat → Nat
  | 0 => 0
  | k + 1 => own_cb s k + (if gI s 7 k = 0 then 0 else 1)
theorem own_cb_le (s : St) : ∀ k, own_cb s k ≤ k
  | 0 => Nat.le_refl _
  | k + 1 => by have := own_cb_le s k; unfold own_cb; split <;> omega
theorem own_cb_eq {s t : St} : ∀ {k}, (∀ j, j < k → gI t 7 j = gI s 7 j) → own_cb t k = own_cb s k
  | 0, _ => rfl
  | k + 1, h => by unfold own_cb; rw [own_cb_eq (fun j hj => h j (by omega)), h k (by omega)]
theorem own_cb_set {s t : St} {F k : Nat} (hk : k < F) (h : ∀ j, j ≠ k → gI t 7 j = gI s 7 j) : own_cb t F + (if gI s 7 k = 0 then 0 else 1) = own_cb s F + (if gI t 7 k = 0 then 0 else 1) := by
  induction F with
  | zero => omega
  | succ F ih =>
    unfold own_cb
    by_cases w : k = F
    · subst w
      rw [own_cb_eq (s := s) (t := t) (fun j hj => h j (by omega))]; omega
    · have := ih (by omega)
      rw [h F (by omega)]; omega
theorem own_cb_pos {s : St} : ∀ {F k : Nat}, k < F → gI s 7 k ≠ 0 → 0 < own_cb s F
  | 0, k, hk, _ => absurd hk (by omega)
  | F + 1, k, hk, h => by
    unfold own_cb
    by_cases w : k = F
    · subst w; rw [if_neg h]; omega
    · have := own_cb_pos (F := F) (k := k) (by omega) h; omega
/-- one queue entry -/
def own_q1 (B F : Nat) (s : St) (i : Nat) : Prop := (0 ≤ (gI s 10 i).toInt ∧ (gI s 10 i).toInt < F) ∧ gI s 11 i = gI s 4 (ix (gI s 10 i)) ∧ (0 ≤ (gI s 11 i).toInt ∧ (gI s 11 i).toInt < B) ∧ gI s 7 (ix (gI s 10 i)) ≠ 0 ∧ ((gI s 12 i = 0 ∧ gI s 5 (ix (gI s 10 i)) = 0) ∨ (gI s 12 i = 1 ∧ gI s 5 (ix (gI s 10 i)) ≠ 0))
def own_c (B F P : Nat) (s : St) : Prop := (gI s 0 14).toInt = B ∧ (gI s 0 15).toInt = F ∧ (gI s 0 16).toInt = P ∧ 8 ≤ B ∧ B ≤ 32 ∧ 2 ≤ F ∧ F ≤ 8 ∧ 1 ≤ P ∧ P ≤ 4
/-- the buffers: each block in one at the most, a clean one as the disk is -/
def own_b (B F : Nat) (s : St) : Prop := (∀ k, k < F → (gI s 4 k).toInt = -1 ∨ (0 ≤ (gI s 4 k).toInt ∧ (gI s 4 k).toInt < B)) ∧ (∀ k l, k < F → l < F → gI s 4 k = gI s 4 l → 0 ≤ (gI s 4 k).toInt → k = l) ∧ (∀ k, k < F → 0 ≤ (gI s 4 k).toInt → gI s 5 k ≠ 0 → gI s 6 k = 0 → ∀ w, w < 4 → gI s 3 (4 * k + w) = gI s 1 (4 * ix (gI s 4 k) + w))
/-- L is what the cache holds -/
def own_A (B F : Nat) (L : Nat → Nat → Int32) (s : St) : Prop := ∀ b : Int32, 0 ≤ b.toInt → b.toInt < B → ∀ w, w < 4 → (∀ k, k < F → gI s 4 k = b → gI s 5 k ≠ 0 → gI s 3 (4 * k + w) = L (ix b) w) ∧ ((∀ k, k < F → gI s 4 k = b → gI s 5 k = 0) → gI s 1 (4 * ix b + w) = L (ix b) w)
def own_N (B : Nat) (L : Nat → Nat → Int32) (s : St) : Prop := ∀ b, b < B → gI s 2 b ≠ 0 → ∀ w, w < 4 → gI s 1 (4 * b + w) = L b w
def own_J (B F P : Nat) (L : Nat → Nat → Int32) (s : St) (n : Nat) : Prop := own_c B F P s ∧ (gI s 0 30).toInt = n ∧ n = own_cb s F ∧ (∀ i, i < n → own_q1 B F s i) ∧ (∀ i j, i < n → j < n → gI s 10 i = gI s 10 j → i = j) ∧ own_b B F s ∧ own_A B F L s ∧ own_N B L s
/-- what an interrupt leaves alone -/
def own_S (s t : St) : Prop := ∀ c j, (c = 2 ∨ c = 4 ∨ c = 8 ∨ c = 9 ∨ c = 13 ∨ c = 14 ∨ c = 15 ∨ (c = 0 ∧ j ≠ 30 ∧ j ≠ 31)) → gI t c j = gI s c j
theorem own_40 (B F P : Nat) (L : Nat → Nat → Int32) (s : St) (n : Nat) (J : own_J B F P L s n) (Q : Int32 → St → Prop) (h0 : n = 0 → Q 0 s)
    (h1 : ∀ t k, n ≠ 0 → k < F → own_J B F P L t (n - 1) → own_S s t → gI s 7 k ≠ 0 → gI t 7 k = 0 → gI t 6 k = 0 → gI t 5 k ≠ 0 → (∀ l, l ≠ k → gI t 5 l = gI s 5 l ∧ gI t 6 l = gI s 6 l ∧ gI t 7 l = gI s 7 l) → Q 1 t) : calI PP 40 16 [.ref 0] s Q := by
  obtain ⟨C, hn, hc, hq, hd, ⟨b1, b2, b3⟩, hA, hN⟩ := J
  obtain ⟨c14, c15, c16, B8, B32, F2, F8, P1, P4⟩ := id C
  have nF : n ≤ F := by rw [hc]; exact own_cb_le s F
  apply c40_in
  refine own_38 s n hn (by omega) _ (fun z v hv => ⟨fun _ => h0 z, fun q => absurd hv q⟩) fun i i0 i1 => ?_
  have xi := ix_int i0
  have ib : inb 16 i := ⟨i0, by show _ < (16 : Int); omega⟩
  refine ⟨fun q => absurd q (by rw [i32_lt]; simp; omega), fun _ => ⟨ib, ib, ib, ?_⟩⟩
  obtain ⟨⟨k0, kF⟩, eb, ⟨bb0, bbB⟩, kb, kw⟩ := hq (ix i) (by omega)
  generalize ek : gI s 10 (ix i) = k at k0 kF eb kb kw ⊢
  generalize ebl : gI s 11 (ix i) = b at eb bb0 bbB ⊢
  have xk := ix_int k0
  have xb := ix_int bb0
  have hw01 : ∀ j, j < n → gI s 12 j = 0 ∨ gI s 12 j = 1 := fun j hj => by
    obtain ⟨_, _, _, _, q⟩ := hq j hj
    exact q.imp (fun q => q.1) (fun q => q.1)
  refine own_39 s n i hn (by omega) ⟨i0, i1⟩ hw01 _ fun t ta t30 tq => ?_
  have t15 : gI t 0 15 = gI s 0 15 := ta 0 _ (by decide) (by decide) (by decide) (by decide)
  apply c22_in
  refine ⟨fun q => absurd q (by rw [i32_lt]; simp; omega), fun _ => ⟨fun _ => ⟨fun q => absurd q (by decide), fun _ => ⟨fun q => absurd q (by rw [i32_lt]; simp; omega), fun _ => ⟨fun _ => ?_, fun q => absurd (by rw [i32_lt]; simp; omega) q⟩⟩⟩, fun q => absurd (by rw [i32_lt, t15, c15]; exact kF) q⟩⟩
  have tc : ∀ c j, c ≠ 0 → c ≠ 10 → c ≠ 11 → c ≠ 12 → gI t c j = gI s c j := fun c j h a b d => ta c j a b d (fun q => absurd q h)
  -- the end, from the state after the transfer
  have fin : ∀ u, (∀ c j, c ≠ 1 → c ≠ 3 → c ≠ 5 → c ≠ 6 → gI u c j = gI t c j) → (∀ l, l ≠ ix k → gI u 5 l = gI s 5 l ∧ gI u 6 l = gI s 6 l) → gI u 6 (ix k) = 0 → gI u 5 (ix k) ≠ 0 → (∀ l, l ≠ ix k → l < F → ∀ w, w < 4 → gI u 3 (4 * l + w) = gI s 3 (4 * l + w)) → (∀ w, w < 4 → gI u 3 (4 * ix k + w) = L (ix b) w) → (∀ w, w < 4 → gI u 1 (4 * ix b + w) = L (ix b) w) → (∀ b', b' ≠ ix b → ∀ w, w < 4 → gI u 1 (4 * b' + w) = gI s 1 (4 * b' + w)) → inb 8 k ∧ calV PP 42 16 [.ref 0, .int k] (sI (sI u 0 31 b) 7 (ix k) (0 : Int32)) (fun s330 => Q (1 : Int32) s330) := by
    intro u ua u56 u6 u5 u3 u3k u1b u1
    refine ⟨⟨k0, by show _ < (8 : Int); omega⟩, ?_⟩
    refine own_42 _ k P (by rw [gI_sI, if_neg (by omega), gI_sI, if_neg (by omega), ua 0 _ (by decide) (by decide) (by decide) (by decide), ta 0 _ (by decide) (by decide) (by decide) (by decide), c16]) P4 _ fun v vc => ?_
    have v0 : ∀ j, j ≠ 31 → gI v 0 j = gI u 0 j := fun j hj => by rw [vc 0 j (by decide), gI_sI, if_neg (by omega), gI_sI, if_neg (by omega)]
    have v7 : ∀ l, l ≠ ix k → gI v 7 l = gI s 7 l := fun l hl => by rw [vc 7 _ (by decide), gI_sI, if_neg (by omega), gI_sI, if_neg (by omega), ua 7 _ (by decide) (by decide) (by decide) (by decide), tc 7 _ (by decide) (by decide) (by decide) (by decide)]
    have v7k : gI v 7 (ix k) = 0 := by rw [vc 7 _ (by decide), gI_sI, if_pos ⟨rfl, rfl⟩]
    have vu : ∀ c j, c ≠ 0 → c ≠ 7 → c ≠ 16 → gI v c j = gI u c j := fun c j a b d => by rw [vc c j d, gI_sI, if_neg (by omega), gI_sI, if_neg (by omega)]
    have vs : ∀ c j, c ≠ 0 → c ≠ 1 → c ≠ 3 → c ≠ 5 → c ≠ 6 → c ≠ 7 → c ≠ 10 → c ≠ 11 → c ≠ 12 → c ≠ 16 → gI v c j = gI s c j := fun c j a0 a1 a3 a5 a6 a7 a10 a11 a12 a16 => by rw [vu c j a0 a7 a16, ua c j a1 a3 a5 a6, tc c j a0 a10 a11 a12]
    have v4 : ∀ j, gI v 4 j = gI s 4 j := fun j => vs 4 j (by decide) (by decide) (by decide) (by decide) (by decide) (by decide) (by decide) (by decide) (by decide) (by decide)
    have v5 : ∀ l, l ≠ ix k → gI v 5 l = gI s 5 l := fun l hl => by rw [vu 5 _ (by decide) (by decide) (by decide), (u56 l hl).1]
    have v6 : ∀ l, l ≠ ix k → gI v 6 l = gI s 6 l := fun l hl => by rw [vu 6 _ (by decide) (by decide) (by decide), (u56 l hl).2]
    have v5k : gI v 5 (ix k) ≠ 0 := by rw [vu 5 _ (by decide) (by decide) (by decide)]; exact u5
    have v6k : gI v 6 (ix k) = 0 := by rw [vu 6 _ (by decide) (by decide) (by decide)]; exact u6
    have v3 : ∀ l, l ≠ ix k → l < F → ∀ w, w < 4 → gI v 3 (4 * l + w) = gI s 3 (4 * l + w) := fun l a b w hw => by rw [vu 3 _ (by decide) (by decide) (by decide), u3 l a b w hw]
    have v3k : ∀ w, w < 4 → gI v 3 (4 * ix k + w) = L (ix b) w := fun w hw => by rw [vu 3 _ (by decide) (by decide) (by decide), u3k w hw]
    have v1b : ∀ w, w < 4 → gI v 1 (4 * ix b + w) = L (ix b) w := fun w hw => by rw [vu 1 _ (by decide) (by decide) (by decide), u1b w hw]
    have v1 : ∀ b', b' ≠ ix b → ∀ w, w < 4 → gI v 1 (4 * b' + w) = gI s 1 (4 * b' + w) := fun b' hb w hw => by rw [vu 1 _ (by decide) (by decide) (by decide), u1 b' hb w hw]
    have v30 : (gI v 0 30).toInt = n - 1 := by rw [v0 _ (by decide), ua 0 _ (by decide) (by decide) (by decide) (by decide), t30]
    have vs0 : ∀ j, j ≠ 30 → j ≠ 31 → gI v 0 j = gI s 0 j := fun j a b => by rw [v0 j b, ua 0 _ (by decide) (by decide) (by decide) (by decide), ta 0 _ (by decide) (by decide) (by decide) (fun _ => a)]
    have vq : ∀ j, j + 1 < n → gI v 10 j = gI s 10 (if ix i ≤ j then j + 1 else j) ∧ gI v 11 j = gI s 11 (if ix i ≤ j then j + 1 else j) ∧ gI v 12 j = gI s 12 (if ix i ≤ j then j + 1 else j) := fun j hj => by
      rw [vu 10 _ (by decide) (by decide) (by decide), vu 11 _ (by decide) (by decide) (by decide), vu 12 _ (by decide) (by decide) (by decide), ua 10 _ (by decide) (by decide) (by decide) (by decide), ua 11 _ (by decide) (by decide) (by decide) (by decide), ua 12 _ (by decide) (by decide) (by decide) (by decide)]
      exact tq j hj
    have e4k : gI s 4 (ix k) = b := eb.symm
    have other : ∀ l, l < F → l ≠ ix k → gI s 4 l ≠ b := fun l hl hk q => hk (b2 l (ix k) hl (by omega) (by rw [q, e4k]) (by rw [q]; exact bb0))
    refine h1 v (ix k) (by omega) (by omega) ⟨?_, ?_, ?_, fun j hj => ?_, fun p q hp hq' e => ?_, ⟨fun l hl => ?_, fun l m hl hm e e0 => ?_, fun l hl l0 lv ld w hw => ?_⟩, fun b' b0 bB w hw => ⟨fun l hl el lv => ?_, fun hall => ?_⟩, fun b' bB kn w hw => ?_⟩ (fun c j hc => ?_) kb v7k v6k v5k (fun l hl => ⟨v5 l hl, v6 l hl, v7 l hl⟩)
    · exact ⟨by rw [vs0 _ (by decide) (by decide), c14], by rw [vs0 _ (by decide) (by decide), c15], by rw [vs0 _ (by decide) (by decide), c16], B8, B32, F2, F8, P1, P4⟩
    · rw [v30]; omega
    · have := own_cb_set (s := s) (t := v) (F := F) (k := ix k) (by omega) (fun j hj => v7 j hj)
      rw [if_neg kb, if_pos v7k] at this
      omega
    · obtain ⟨q10, q11, q12⟩ := vq j (by omega)
      have ne : (if ix i ≤ j then j + 1 else j) ≠ ix i := by split <;> omega
      have lt : (if ix i ≤ j then j + 1 else j) < n := by split <;> omega
      generalize (if ix i ≤ j then j + 1 else j) = m at q10 q11 q12 ne lt
      obtain ⟨p1, p2, p3, p4, p5⟩ := hq m lt
      have dk : ix (gI s 10 m) ≠ ix k := fun q => by
        have : gI s 10 m = k := (ix_inj p1.1 k0).mp q
        exact ne (hd m (ix i) lt (by omega) (by rw [this, ek]))
      refine ⟨by rw [q10]; exact p1, by rw [q11, q10, v4, p2], by rw [q11]; exact p3, by rw [q10, v7 _ dk]; exact p4, ?_⟩
      rw [q12, q10, v5 _ dk]; exact p5
    · rw [(vq p (by omega)).1, (vq q (by omega)).1] at e
      have := hd _ _ (by split <;> omega) (by split <;> omega) e
      revert this; split <;> split <;> omega
    · rw [v4]; exact b1 l hl
    · rw [v4, v4] at e; rw [v4] at e0; exact b2 l m hl hm e e0
    · rw [v4] at l0 ⊢
      by_cases z : l = ix k
      · subst z; rw [e4k, v3k w hw, v1b w hw]
      · have ob := other l hl z
        rw [v5 l z] at lv; rw [v6 l z] at ld
        rw [v3 l z hl w hw, v1 _ (fun q => ob ((ix_inj l0 bb0).mp q)) w hw]
        exact b3 l hl l0 lv ld w hw
    · rw [v4] at el
      by_cases z : l = ix k
      · subst z
        have : b' = b := by rw [← el, e4k]
        subst this; exact v3k w hw
      · rw [v5 l z] at lv
        rw [v3 l z hl w hw]
        exact (hA b' b0 bB w hw).1 l hl el lv
    · by_cases z : b' = b
      · subst z; exact v1b w hw
      · rw [v1 _ (fun q => z ((ix_inj b0 bb0).mp q)) w hw]
        refine (hA b' b0 bB w hw).2 fun l hl el => ?_
        have zl : l ≠ ix k := fun q => z (by rw [← el, q, e4k])
        have := hall l hl (by rw [v4]; exact el)
        rw [v5 l zl] at this; exact this
    · by_cases z : b' = ix b
      · subst z; exact v1b w hw
      · rw [v1 _ z w hw]
        exact hN b' bB (by rw [← vs 2 _ (by decide) (by decide) (by decide) (by decide) (by decide) (by decide) (by decide) (by decide) (by decide) (by decide)]; exact kn) w hw
    · rcases hc with rfl | rfl | rfl | rfl | rfl | rfl | rfl | ⟨rfl, a, b⟩
      · exact vs 2 _ (by decide) (by decide) (by decide) (by decide) (by decide) (by decide) (by decide) (by decide) (by decide) (by decide)
      · exact v4 _
      · exact vs 8 _ (by decide) (by decide) (by decide) (by decide) (by decide) (by decide) (by decide) (by decide) (by decide) (by decide)
      · exact vs 9 _ (by decide) (by decide) (by decide) (by decide) (by decide) (by decide) (by decide) (by decide) (by decide) (by decide)
      · exact vs 13 _ (by decide) (by decide) (by decide) (by decide) (by decide) (by decide) (by decide) (by decide) (by decide) (by decide)
      · exact vs 14 _ (by decide) (by decide) (by decide) (by decide) (by decide) (by decide) (by decide) (by decide) (by decide) (by decide)
      · exact vs 15 _ (by decide) (by decide) (by decide) (by decide) (by decide) (by decide) (by decide) (by decide) (by decide) (by decide)
      · exact vs0 j a b
  have uq : ∀ l, l < F → gI s 4 l = b → l = ix k := fun l hl e => b2 l (ix k) hl (by omega) (by rw [e, eb]) (by rw [e]; exact bb0)
  rcases kw with ⟨w0, wv⟩ | ⟨w1, wv⟩
  · rw [w0]
    have Lb : ∀ w, w < 4 → gI s 1 (4 * ix b + w) = L (ix b) w := fun w hw => (hA b bb0 bbB w hw).2 fun l hl e => by rw [uq l hl e]; exact wv
    refine own_41r t k b ⟨k0, by omega⟩ ⟨bb0, by omega⟩ _ fun u ua u5 u6 u3 u3' => fin u (fun c j a b d f => ua c j b d f) (fun l hl => ⟨?_, ?_⟩) ?_ ?_ (fun l hl lF w hw => ?_) (fun w hw => ?_) (fun w hw => ?_) (fun b' hb w hw => ?_)
    · rw [u5, if_neg hl, tc 5 _ (by decide) (by decide) (by decide) (by decide)]
    · rw [u6, if_neg hl, tc 6 _ (by decide) (by decide) (by decide) (by decide)]
    · rw [u6, if_pos rfl]
    · rw [u5, if_pos rfl]; decide
    · rw [u3' _ (by omega), tc 3 _ (by decide) (by decide) (by decide) (by decide)]
    · rw [u3 w hw, tc 1 _ (by decide) (by decide) (by decide) (by decide), Lb w hw]
    · rw [ua 1 _ (by decide) (by decide) (by decide), tc 1 _ (by decide) (by decide) (by decide) (by decide), Lb w hw]
    · rw [ua 1 _ (by decide) (by decide) (by decide), tc 1 _ (by decide) (by decide) (by decide) (by decide)]
  · rw [w1]
    have Lb : ∀ w, w < 4 → gI s 3 (4 * ix k + w) = L (ix b) w := fun w hw => (hA b bb0 bbB w hw).1 (ix k) (by omega) eb.symm wv
    refine own_41w t k b ⟨k0, by omega⟩ ⟨bb0, by omega⟩ _ fun u ua u6 u1 u1' => fin u (fun c j a b d f => ua c j a f) (fun l hl => ⟨?_, ?_⟩) ?_ ?_ (fun l hl lF w hw => ?_) (fun w hw => ?_) (fun w hw => ?_) (fun b' hb w hw => ?_)
    · rw [ua 5 _ (by decide) (by decide), tc 5 _ (by decide) (by decide) (by decide) (by decide)]
    · rw [u6, if_neg hl, tc 6 _ (by decide) (by decide) (by decide) (by decide)]
    · rw [u6, if_pos rfl]
    · rw [ua 5 _ (by decide) (by decide), tc 5 _ (by decide) (by decide) (by decide) (by decide)]; exact wv
    · rw [ua 3 _ (by decide) (by decide), tc 3 _ (by decide) (by decide) (by decide) (by decide)]
    · rw [ua 3 _ (by decide) (by decide), tc 3 _ (by decide) (by decide) (by decide) (by decide), Lb w hw]
    · rw [u1 w hw, tc 3 _ (by decide) (by decide) (by decide) (by decide), Lb w hw]
    · rw [u1' _ (by omega), tc 1 _ (by decide) (by decide) (by decide) (by decide)]
theorem own_J_fr {B F P : Nat} {L : Nat → Nat → Int32} {s t : St} {n : Nat} (J : own_J B F P L s n) (h : ∀ c j, (1 ≤ c ∧ c ≤ 7 ∨ 10 ≤ c ∧ c ≤ 12 ∨ (c = 0 ∧ j ≠ 26 ∧ j ≠ 31)) → gI t c j = gI s c j) : own_J B F P L t n := by
  obtain ⟨⟨c14, c15, c16, cr⟩, hn, hc, hq, hd, ⟨b1, b2, b3⟩, hA, hN⟩ := J
  have h1 : ∀ j, gI t 1 j = gI s 1 j := fun j => h 1 j (by omega)
  have h2 : ∀ j, gI t 2 j = gI s 2 j := fun j => h 2 j (by omega)
  have h3 : ∀ j, gI t 3 j = gI s 3 j := fun j => h 3 j (by omega)
  have h4 : ∀ j, gI t 4 j = gI s 4 j := fun j => h 4 j (by omega)
  have h5 : ∀ j, gI t 5 j = gI s 5 j := fun j => h 5 j (by omega)
  have h6 : ∀ j, gI t 6 j = gI s 6 j := fun j => h 6 j (by omega)
  have h7 : ∀ j, gI t 7 j = gI s 7 j := fun j => h 7 j (by omega)
  have h10 : ∀ j, gI t 10 j = gI s 10 j := fun j => h 10 j (by omega)
  have h11 : ∀ j, gI t 11 j = gI s 11 j := fun j => h 11 j (by omega)
  have h12 : ∀ j, gI t 12 j = gI s 12 j := fun j => h 12 j (by omega)
  refine ⟨⟨by rw [h 0 14 (by omega), c14], by rw [h 0 15 (by omega), c15], by rw [h 0 16 (by omega), c16], cr⟩, by rw [h 0 30 (by omega), hn], by rw [hc]; exact (own_cb_eq (fun j _ => h7 j)).symm, fun i hi => ?_, fun i j hi hj e => ?_, ⟨fun k hk => ?_, fun k l hk hl e e0 => ?_, fun k hk k0 kv kd w hw => ?_⟩, fun b b0 bB w hw => ⟨fun k hk e v => ?_, fun ha => ?_⟩, fun b bB kn w hw => ?_⟩
  · unfold own_q1; simp only [h10, h11, h12, h4, h5, h7]; exact hq i hi
  · rw [h10, h10] at e; exact hd i j hi hj e
  · rw [h4]; exact b1 k hk
  · rw [h4, h4] at e; rw [h4] at e0; exact b2 k l hk hl e e0
  · rw [h4] at k0; rw [h5] at kv; rw [h6] at kd; rw [h3, h1, h4]; exact b3 k hk k0 kv kd w hw
  · rw [h4] at e; rw [h5] at v; rw [h3]; exact (hA b b0 bB w hw).1 k hk e v
  · rw [h1]; exact (hA b b0 bB w hw).2 fun k hk e => by rw [← h5]; exact ha k hk (by rw [h4]; exact e)
  · rw [h2] at kn; rw [h1]; exact hN b bB kn w hw
/-- what interrupts, and the queueing of dirty buffers, keep -/
def own_T (s t : St) : Prop := own_S s t ∧ ∀ l, (gI s 5 l ≠ 0 → gI t 5 l ≠ 0) ∧ ((gI s 7 l ≠ 0 ∨ gI s 6 l = 0) → (gI t 7 l ≠ 0 ∨ gI t 6 l = 0)) ∧ (gI s 7 l ≠ 0 → gI t 7 l = 0 → gI t 5 l ≠ 0)
theorem own_T_rfl (s : St) : own_T s s := ⟨fun _ _ _ => rfl, fun l => ⟨id, id, fun a b => absurd b a⟩⟩
theorem own_T_tr {s t u : St} (a : own_T s t) (b : own_T t u) : own_T s u := by
  refine ⟨fun c j h => by rw [b.1 c j h, a.1 c j h], fun l => ⟨fun h => (b.2 l).1 ((a.2 l).1 h), fun h => (b.2 l).2.1 ((a.2 l).2.1 h), fun h h' => ?_⟩⟩
  by_cases z : gI t 7 l = 0
  · exact (b.2 l).1 ((a.2 l).2.2 h z)
  · exact (b.2 l).2.2 z h'
theorem own_40T {s t : St} {k : Nat} (h1 : own_S s t) (h2 : gI s 7 k ≠ 0) (h3 : gI t 7 k = 0) (h4 : gI t 6 k = 0) (h5 : gI t 5 k ≠ 0) (h6 : ∀ l, l ≠ k → gI t 5 l = gI s 5 l ∧ gI t 6 l = gI s 6 l ∧ gI t 7 l = gI s 7 l) : own_T s t := by
  refine ⟨h1, fun l => ?_⟩
  by_cases z : l = k
  · subst z; exact ⟨fun _ => h5, fun _ => Or.inr h4, fun _ _ => h5⟩
  · obtain ⟨a, b, c⟩ := h6 l z
    rw [a, b, c]; exact ⟨id, id, fun p q => absurd q p⟩
theorem own_T_16 {s : St} {j : Nat} {v : Int32} : own_T s (sI s 16 j v) := by
  have e : ∀ c i, c ≠ 16 → gI (sI s 16 j v) c i = gI s c i := fun c i h => by rw [gI_sI, if_neg (fun q => h q.1)]
  refine ⟨fun c i h => e c i (by omega), fun l => ?_⟩
  rw [e 5 _ (by decide), e 6 _ (by decide), e 7 _ (by decide)]
  exact ⟨id, id, fun p q => absurd q p⟩
theorem own_J_16 {B F P : Nat} {L : Nat → Nat → Int32} {s : St} {n j : Nat} {v : Int32} (J : own_J B F P L s n) : own_J B F P L (sI s 16 j v) n :=
  own_J_fr J fun c i h => by rw [gI_sI, if_neg (by omega)]
/-- waitBuffer -/
theorem own_35 (B F P : Nat) (L : Nat → Nat → Int32) (s : St) (n : Nat) (p k : Int32) (J : own_J B F P L s n) (hk : 0 ≤ k.toInt ∧ k.toInt < F) (Q : St → Prop) (h : ∀ t m, own_J B F P L t m → own_T s t → gI t 7 (ix k) = 0 → Q t) : calV PP 35 16 [.ref 0, .int p, .int k] s Q := by
  have xk := ix_int hk.1
  obtain ⟨c14, c15, c16, B8, B32, F2, F8, P1, P4⟩ := J.1
  have kb : inb 8 k := ⟨hk.1, by show _ < (8 : Int); omega⟩
  have nF : n ≤ F := by rw [J.2.2.1]; exact own_cb_le s F
  apply c35_in
  apply c22_in
  refine ⟨fun q => absurd q (by rw [i32_lt]; simp; omega), fun _ => ⟨fun _ => ⟨fun q => absurd q (by decide), fun _ => ?_⟩, fun q => absurd (by rw [i32_lt, c15]; exact hk.2) q⟩⟩
  intro m em
  have pb : m ≠ 0 → inb 4 p := by
    intro hm
    rw [em] at hm
    by_cases a : p < 0
    · rw [if_pos a] at hm; exact absurd rfl hm
    · rw [if_neg a] at hm
      by_cases b : p < gI s 0 16
      · rw [i32_lt] at a b; simp at a; rw [c16] at b; exact ⟨a, by show _ < (4 : Int); omega⟩
      · rw [if_neg b] at hm; exact absurd rfl hm
  have out : ∀ u n', own_J B F P L u n' → own_T s u → gI u 7 (ix k) = 0 → wpcV PP 35 cm35 16 85 [some (.ref 0), some (.int p), none, some (.int m), none] [] u Q := by
    intro u n' Ju Tu u7
    refine c35_85 _ _ _ _ ⟨fun _ => h u n' Ju Tu u7, fun q => ⟨pb q, h _ n' (own_J_16 Ju) (own_T_tr Tu own_T_16) ?_⟩⟩
    rw [gI_sI, if_neg (by omega)]; exact u7
  have loop : ∀ (n' : Nat) (i : Int32) (u : St), 0 ≤ i.toInt → i.toInt + n' < 64 → own_J B F P L u n' → own_T s u → wpcV PP 35 cm35 16 50 [some (.ref 0), some (.int p), some (.int k), some (.int m), some (.int i)] [] u Q := by
    intro n'
    induction n' with
    | zero =>
      intro i u i0 i1 Ju Tu
      have u7 : gI u 7 (ix k) = 0 := Classical.byContradiction fun q => by
        have := own_cb_pos (s := u) (F := F) (k := ix k) (by omega) q
        have := Ju.2.2.1; omega
      exact c35_50 _ _ _ _ _ _ ⟨fun _ => ⟨kb, fun _ => out u 0 Ju Tu u7, fun q => absurd u7 q⟩, fun q => absurd (by rw [i32_lt]; simp; omega) q⟩
    | succ n' ih =>
      intro i u i0 i1 Ju Tu
      have e : (i + 1).toInt = i.toInt + 1 := by rw [i32_add] <;> simp <;> omega
      refine c35_50 _ _ _ _ _ _ ⟨fun _ => ⟨kb, fun a => out u _ Ju Tu a, fun a => ?_⟩, fun q => absurd (by rw [i32_lt]; simp; omega) q⟩
      refine own_40 B F P L u _ Ju _ (fun q => absurd q (by omega)) fun t l _ _ Jt St a1 a2 a3 a4 a5 => ⟨fun q => absurd q (by decide), fun _ => ?_⟩
      exact ih (i + 1) t (by omega) (by omega) Jt (own_T_tr Tu (own_40T St a1 a2 a3 a4 a5))
  have go : ∀ u, own_J B F P L u n → own_T s u → wpcV PP 35 cm35 16 47 [some (.ref 0), some (.int p), some (.int k), some (.int m), none] [] u Q := fun u Ju Tu => c35_47 _ _ _ _ _ (loop n 0 u (by decide) (by show (0 : Int) + _ < _; omega) Ju Tu)
  exact ⟨fun _ => go s J (own_T_rfl s), fun hm => ⟨kb, fun _ => go s J (own_T_rfl s), fun _ => ⟨pb hm, go _ (own_J_16 J) own_T_16⟩⟩⟩
/-- findBuf -/
theorem own_31 (F : Nat) (s : St) (b : Int32) (hF : (gI s 0 15).toInt = F) (h8 : F ≤ 8) (Q : Int32 → St → Prop) (h1 : ∀ k : Int32, 0 ≤ k.toInt → k.toInt < F → gI s 4 (ix k) = b → Q k s) (h2 : (∀ k, k < F → gI s 4 k ≠ b) → Q (-1) s) : calI PP 31 16 [.ref 0, .int b] s Q := by
  apply c31_in
  refine loop_up (F := fun i => (∀ k, k < ix i → gI s 4 k ≠ b) → wpcI PP 31 cm31 16 2 [some (.ref 0), some (.int b), some (.int i)] [] s Q) F (by omega) (fun i i0 i1 e ih hk => ?_) (fun i hi hk => ?_) 0 (by decide) (by simp) (fun k hk => absurd hk (by simp [ix]))
  · have xi := ix_int i0
    have xj := ix_int (i := i + 1) (by omega)
    refine c31_2 _ _ _ _ ⟨fun _ => ⟨⟨i0, by show _ < (8 : Int); omega⟩, fun a => h1 i i0 i1 a, fun a => ih fun k hk' => ?_⟩, fun q => absurd (by rw [i32_lt, hF]; exact i1) q⟩
    by_cases w : k = ix i
    · rw [w]; exact a
    · exact hk k (by omega)
  · have xi := ix_int (i := i) (by omega)
    exact c31_2 _ _ _ _ ⟨fun q => absurd q (by rw [i32_lt, hF]; omega), fun _ => h2 fun k hk' => hk k (by omega)⟩
/-- lruFree -/
theorem own_34 (F : Nat) (s : St) (hF : (gI s 0 15).toInt = F) (h8 : F ≤ 8) (Q : Int32 → St → Prop) (h1 : ∀ k : Int32, 0 ≤ k.toInt → k.toInt < F → gI s 7 (ix k) = 0 → gI s 8 (ix k) = 0 → Q k s) (h2 : (∀ k, k < F → gI s 7 k ≠ 0 ∨ gI s 8 k ≠ 0) → Q (-1) s) : calI PP 34 16 [.ref 0] s Q := by
  apply c34_in
  refine loop_up (F := fun i => ∀ x : Int32, (x = -1 ∧ (∀ k, k < ix i → gI s 7 k ≠ 0 ∨ gI s 8 k ≠ 0)) ∨ ((0 ≤ x.toInt ∧ x.toInt < i.toInt) ∧ gI s 7 (ix x) = 0 ∧ gI s 8 (ix x) = 0) → wpcI PP 34 cm34 16 4 [some (.ref 0), some (.int x), some (.int i)] [] s Q) F (by omega) (fun i i0 i1 e ih x hx => ?_) (fun i hi x hx => ?_) 0 (by decide) (by simp) (-1) (Or.inl ⟨rfl, fun k hk => absurd hk (by simp [ix])⟩)
  · have xi := ix_int i0
    have xj := ix_int (i := i + 1) (by omega)
    have ib : inb 8 i := ⟨i0, by show _ < (8 : Int); omega⟩
    have skip : (gI s 7 (ix i) ≠ 0 ∨ gI s 8 (ix i) ≠ 0) → wpcI PP 34 cm34 16 51 [some (.ref 0), some (.int x), some (.int i)] [] s Q := by
      intro hn
      refine c34_51 _ _ _ _ (ih x (hx.imp (fun q => ⟨q.1, fun k hk => ?_⟩) (fun q => ⟨by omega, q.2⟩)))
      by_cases w : k = ix i
      · rw [w]; exact hn
      · exact q.2 k (by omega)
    refine c34_4 _ _ _ _ ⟨fun _ => ⟨ib, fun a => ⟨ib, fun b => ⟨fun _ => c34_51 _ _ _ _ (ih i (Or.inr ⟨by omega, a, b⟩)), fun c => ?_⟩, fun b => skip (Or.inr b)⟩, fun a => skip (Or.inl a)⟩, fun q => absurd (by rw [i32_lt, hF]; exact i1) q⟩
    rcases hx with ⟨q, _⟩ | ⟨q, q7, q8⟩
    · rw [q] at c; exact absurd (by decide) c
    · refine ⟨ib, ⟨q.1, by show _ < (8 : Int); omega⟩, fun m em => c34_51 _ _ _ _ (ih m (Or.inr ?_))⟩
      rw [em]
      split
      · exact ⟨by omega, a, b⟩
      · exact ⟨by omega, q7, q8⟩
  · have xi := ix_int (i := i) (by omega)
    refine c34_4 _ _ _ _ ⟨fun q => absurd q (by rw [i32_lt, hF]; omega), fun _ => ?_⟩
    rcases hx with ⟨q, hq⟩ | ⟨q, q7, q8⟩
    · rw [q]; exact h2 fun k hk => hq k (by omega)
    · exact h1 x q.1 (by omega) q7 q8
/-- enqueue, and the buffer busy -/
theorem own_36 (B F P : Nat) (L : Nat → Nat → Int32) (s : St) (n : Nat) (k b w : Int32) (J : own_J B F P L s n) (hk : 0 ≤ k.toInt ∧ k.toInt < F) (hb : 0 ≤ b.toInt ∧ b.toInt < B) (e4 : gI s 4 (ix k) = b) (e7 : gI s 7 (ix k) = 0) (hw : (w = 0 ∧ gI s 5 (ix k) = 0) ∨ (w = 1 ∧ gI s 5 (ix k) ≠ 0)) (Q : Int32 → St → Prop)
    (h : ∀ t, own_J B F P L (sI t 7 (ix k) 1) (n + 1) → (∀ c j, c ≠ 10 → c ≠ 11 → c ≠ 12 → (c = 0 → j ≠ 30) → gI t c j = gI s c j) → Q 1 t) : calI PP 36 16 [.ref 0, .int k, .int b, .int w] s Q := by
  obtain ⟨⟨c14, c15, c16, cr⟩, hn, hc, hq, hd, ⟨b1, b2, b3⟩, hA, hN⟩ := J
  have xk := ix_int hk.1
  have xb := ix_int hb.1
  have nF : n ≤ F := by rw [hc]; exact own_cb_le s F
  have xn : ix (gI s 0 30) = n := by have := ix_int (i := gI s 0 30) (by omega); omega
  have nb : inb 16 (gI s 0 30) := ⟨by omega, by show _ < (16 : Int); omega⟩
  apply c36_in
  refine ⟨fun _ => ⟨nb, nb, nb, h _ ?_ (fun c j a b d f => ?_)⟩, fun q => absurd (by rw [i32_lt, hn]; simp; omega) q⟩
  rotate_left
  · rw [gI_sI, if_neg (fun q => f q.1 q.2), gI_sI, if_neg (fun q => d q.1), gI_sI, if_neg (fun q => b q.1), gI_sI, if_neg (fun q => a q.1)]
  rw [xn]
  have ww : w &&& 1 = w := by rcases hw with ⟨q, _⟩ | ⟨q, _⟩ <;> rw [q] <;> decide
  rw [ww]
  have en : (gI s 0 30 + 1).toInt = n + 1 := by rw [i32_add] <;> rw [hn] <;> simp <;> omega
  generalize hT : sI (sI (sI (sI (sI s 10 n k) 11 n b) 12 n w) 0 30 (gI s 0 30 + 1)) 7 (ix k) 1 = T
  have tc : ∀ c j, c ≠ 7 → c ≠ 10 → c ≠ 11 → c ≠ 12 → (c = 0 → j ≠ 30) → gI T c j = gI s c j := fun c j a b d e f => by
    subst hT; rw [gI_sI, if_neg (by omega), gI_sI, if_neg (fun q => f q.1 q.2), gI_sI, if_neg (by omega), gI_sI, if_neg (by omega), gI_sI, if_neg (by omega)]
  have t30 : (gI T 0 30).toInt = n + 1 := by subst hT; rw [gI_sI, if_neg (by omega), gI_sI, if_pos ⟨rfl, rfl⟩, en]
  have t7 : ∀ l, l ≠ ix k → gI T 7 l = gI s 7 l := fun l hl => by subst hT; rw [gI_sI, if_neg (by omega), gI_sI, if_neg (by omega), gI_sI, if_neg (by omega), gI_sI, if_neg (by omega), gI_sI, if_neg (by omega)]
  have t7k : gI T 7 (ix k) = 1 := by subst hT; rw [gI_sI, if_pos ⟨rfl, rfl⟩]
  have tq : ∀ i, i < n → gI T 10 i = gI s 10 i ∧ gI T 11 i = gI s 11 i ∧ gI T 12 i = gI s 12 i := fun i hi => by
    subst hT
    refine ⟨?_, ?_, ?_⟩ <;> rw [gI_sI, if_neg (by omega), gI_sI, if_neg (by omega), gI_sI, if_neg (by omega), gI_sI, if_neg (by omega), gI_sI, if_neg (by omega)]
  have tn : gI T 10 n = k ∧ gI T 11 n = b ∧ gI T 12 n = w := by subst hT; simp [gI_sI]
  clear hT
  have h1 : ∀ j, gI T 1 j = gI s 1 j := fun j => tc 1 j (by decide) (by decide) (by decide) (by decide) (by omega)
  have h2 : ∀ j, gI T 2 j = gI s 2 j := fun j => tc 2 j (by decide) (by decide) (by decide) (by decide) (by omega)
  have h3 : ∀ j, gI T 3 j = gI s 3 j := fun j => tc 3 j (by decide) (by decide) (by decide) (by decide) (by omega)
  have h4 : ∀ j, gI T 4 j = gI s 4 j := fun j => tc 4 j (by decide) (by decide) (by decide) (by decide) (by omega)
  have h5 : ∀ j, gI T 5 j = gI s 5 j := fun j => tc 5 j (by decide) (by decide) (by decide) (by decide) (by omega)
  have h6 : ∀ j, gI T 6 j = gI s 6 j := fun j => tc 6 j (by decide) (by decide) (by decide) (by decide) (by omega)
  refine ⟨⟨by rw [tc 0 14 (by decide) (by decide) (by decide) (by decide) (by decide), c14], by rw [tc 0 15 (by decide) (by decide) (by decide) (by decide) (by decide), c15], by rw [tc 0 16 (by decide) (by decide) (by decide) (by decide) (by decide), c16], cr⟩, by rw [t30]; simp, ?_, fun i hi => ?_, fun i j hi hj e => ?_, ⟨fun l hl => ?_, fun l m hl hm e e0 => ?_, fun l hl k0 kv kd w hw => ?_⟩, fun b b0 bB w hw => ⟨fun l hl e v => ?_, fun ha => ?_⟩, fun b bB kn w hw => ?_⟩
  · have := own_cb_set (s := s) (t := T) (F := F) (k := ix k) (by omega) t7
    rw [if_pos e7, if_neg (by rw [t7k]; decide)] at this
    omega
  · by_cases z : i = n
    · subst z
      unfold own_q1
      rw [tn.1, tn.2.1, tn.2.2, h4, h5, t7k]
      exact ⟨hk, e4.symm, hb, by decide, hw⟩
    · obtain ⟨p1, p2, p3, p4, p5⟩ := hq i (by omega)
      obtain ⟨q1, q2, q3⟩ := tq i (by omega)
      have nk : ix (gI s 10 i) ≠ ix k := fun q => p4 (by rw [q]; exact e7)
      unfold own_q1
      rw [q1, q2, q3, h4, h5, t7 _ nk]
      exact ⟨p1, p2, p3, p4, p5⟩
  · have new : ∀ i, i < n → gI T 10 i ≠ k := fun i hi q => by
      obtain ⟨p1, p2, p3, p4, p5⟩ := hq i hi
      rw [(tq i hi).1] at q
      rw [q] at p4
      exact p4 e7
    by_cases z : i = n
    · by_cases z' : j = n
      · omega
      · rw [z, tn.1] at e; exact absurd e.symm (new j (by omega))
    · by_cases z' : j = n
      · rw [z', tn.1] at e; exact absurd e (new i (by omega))
      · rw [(tq i (by omega)).1, (tq j (by omega)).1] at e
        exact hd i j (by omega) (by omega) e
  · rw [h4]; exact b1 l hl
  · rw [h4, h4] at e; rw [h4] at e0; exact b2 l m hl hm e e0
  · rw [h4] at k0; rw [h5] at kv; rw [h6] at kd; rw [h3, h1, h4]; exact b3 l hl k0 kv kd w hw
  · rw [h4] at e; rw [h5] at v; rw [h3]; exact (hA b b0 bB w hw).1 l hl e v
  · rw [h1]; exact (hA b b0 bB w hw).2 fun k hk e => by rw [← h5]; exact ha k hk (by rw [h4]; exact e)
  · rw [h2] at kn; rw [h1]; exact hN b bB kn w hw
/-- allocate -/
theorem own_33 (B F P : Nat) (L : Nat → Nat → Int32) (s : St) (n : Nat) (J : own_J B F P L s n) (hf : ∃ k, k < F ∧ gI s 8 k = 0) (hh : ∀ k, k < F → gI s 8 k ≠ 0 → gI s 7 k = 0) (Q : Int32 → St → Prop)
    (h : ∀ t m (k : Int32), own_J B F P L t m → own_T s t → 0 ≤ k.toInt → k.toInt < F → gI t 7 (ix k) = 0 → gI t 8 (ix k) = 0 → (gI t 6 (ix k) = 0 ∨ gI t 5 (ix k) = 0 ∨ (gI t 4 (ix k)).toInt < 0) → Q k t) : calI PP 33 16 [.ref 0] s Q := by
  obtain ⟨c14, c15, c16, B8, B32, F2, F8, P1, P4⟩ := J.1
  apply c33_in
  have one : ∀ (n' : Nat) (i : Int32) (u : St), 0 ≤ i.toInt → i.toInt < 60 → own_J B F P L u n' → own_T s u → (∀ k, k < F → gI u 8 k ≠ 0 → gI u 7 k = 0) → (∀ t, own_J B F P L t (n' + 1) → own_T s t → (∀ k, k < F → gI t 8 k ≠ 0 → gI t 7 k = 0) → wpcI PP 33 cm33 16 2 [some (.ref 0), some (.int (i + 1)), none, none] [] t Q) → wpcI PP 33 cm33 16 2 [some (.ref 0), some (.int i), none, none] [] u Q := by
    intro n' i u i0 i1 Ju Tu hu next
    have e : (i + 1).toInt = i.toInt + 1 := by rw [i32_add] <;> simp <;> omega
    have u15 : (gI u 0 15).toInt = F := Ju.1.2.1
    refine c33_2 _ _ _ ⟨fun _ => ?_, fun q => absurd (by rw [i32_lt]; simp; omega) q⟩
    refine own_34 F u u15 F8 _ (fun k k0 k1 k7 k8 => ?_) (fun hall => ?_)
    · have xk := ix_int k0
      have kb : inb 8 k := ⟨k0, by show _ < (8 : Int); omega⟩
      refine ⟨fun q => absurd q (by rw [i32_lt]; simp; omega), fun _ => ⟨kb, fun a => h u n' k Ju Tu k0 k1 k7 k8 (Or.inl a), fun a => ⟨kb, fun b => h u n' k Ju Tu k0 k1 k7 k8 (Or.inr (Or.inl b)), fun b => ⟨kb, fun c => h u n' k Ju Tu k0 k1 k7 k8 (Or.inr (Or.inr (by rw [i32_lt] at c; simpa using c))), fun c => ⟨kb, ?_⟩⟩⟩⟩⟩
      rw [i32_lt] at c; simp at c
      have rng := (Ju.2.2.2.2.2.1.1 (ix k) (by omega)).resolve_left (by omega)
      refine own_36 B F P L u n' k _ 1 Ju ⟨k0, k1⟩ rng rfl k7 (Or.inr ⟨rfl, b⟩) _ fun t Jt tc => ⟨fun q => absurd q (by decide), fun _ => ⟨kb, c33_84 _ _ _ (next _ Jt (own_T_tr Tu ⟨fun c j hc => ?_, fun l => ?_⟩) fun l hl l8 => ?_)⟩⟩
      · rw [gI_sI, if_neg (by omega), tc c j (by omega) (by omega) (by omega) (by omega)]
      · have e5 : gI (sI t 7 (ix k) 1) 5 l = gI u 5 l := by rw [gI_sI, if_neg (by omega), tc 5 l (by decide) (by decide) (by decide) (by omega)]
        have e6 : gI (sI t 7 (ix k) 1) 6 l = gI u 6 l := by rw [gI_sI, if_neg (by omega), tc 6 l (by decide) (by decide) (by decide) (by omega)]
        by_cases z : l = ix k
        · subst z
          have e7 : gI (sI t 7 (ix k) 1) 7 (ix k) = 1 := by rw [gI_sI, if_pos ⟨rfl, rfl⟩]
          rw [e5, e6, e7]
          exact ⟨id, fun _ => Or.inl (by decide), fun p => absurd k7 p⟩
        · have e7 : gI (sI t 7 (ix k) 1) 7 l = gI u 7 l := by rw [gI_sI, if_neg (fun q => z q.2), tc 7 l (by decide) (by decide) (by decide) (by omega)]
          rw [e5, e6, e7]
          exact ⟨id, id, fun p q => absurd q p⟩
      · rw [gI_sI, if_neg (by omega), tc 8 l (by decide) (by decide) (by decide) (by omega)] at l8
        have z : l ≠ ix k := fun z => l8 (by rw [z]; exact k8)
        rw [gI_sI, if_neg (fun q => z q.2), tc 7 l (by decide) (by decide) (by decide) (by omega)]
        exact hu l hl l8
    · refine ⟨fun _ => ?_, fun q => absurd (by decide) q⟩
      refine own_40 B F P L u n' Ju _ (fun z => ?_) fun t k _ kF Jt St a1 a2 a3 a4 a5 => ⟨fun q => absurd q (by decide), fun _ => c33_84 _ _ _ ?_⟩
      · exfalso
        obtain ⟨k, kF, k8⟩ := hf
        have u8 : gI u 8 k = 0 := by rw [Tu.1 8 k (by omega), k8]
        have b7 : gI u 7 k ≠ 0 := (hall k kF).resolve_right (fun q => q u8)
        have := own_cb_pos (s := u) kF b7
        have := Ju.2.2.1
        omega
      · have t8k : gI t 8 k = 0 := by
          rw [St 8 k (by omega)]
          exact Classical.byContradiction fun q => a1 (hu k kF q)
        refine c33_2 _ _ _ ⟨fun _ => ?_, fun q => absurd (by rw [i32_lt, e]; simp; omega) q⟩
        refine own_34 F t Jt.1.2.1 F8 _ (fun l l0 l1 l7 l8 => ?_) (fun hall' => ?_)
        · have xl := ix_int l0
          have lk : ix l = k := Classical.byContradiction fun z => by
            have q7 : gI u 7 (ix l) = 0 := by rw [← (a5 (ix l) z).2.2]; exact l7
            have q8 : gI u 8 (ix l) = 0 := by rw [← St 8 _ (by omega)]; exact l8
            exact (hall (ix l) (by omega)).elim (fun q => q q7) (fun q => q q8)
          have lb : inb 8 l := ⟨l0, by show _ < (8 : Int); omega⟩
          have l6 : gI t 6 (ix l) = 0 := by rw [lk]; exact a3
          refine ⟨fun q => absurd q (by rw [i32_lt]; simp; omega), fun _ => ⟨lb, fun a => h t _ l Jt (own_T_tr Tu (own_40T St a1 a2 a3 a4 a5)) l0 l1 l7 l8 (Or.inl a), fun a => absurd l6 a⟩⟩
        · exact absurd (hall' k kF) (by rw [a2, t8k]; simp)
  have key : ∀ (d n' : Nat) (i : Int32) (u : St), n' + d = F → 0 ≤ i.toInt → i.toInt + d < 60 → own_J B F P L u n' → own_T s u → (∀ k, k < F → gI u 8 k ≠ 0 → gI u 7 k = 0) → wpcI PP 33 cm33 16 2 [some (.ref 0), some (.int i), none, none] [] u Q := by
    intro d
    induction d with
    | zero =>
      intro n' i u hd i0 i1 Ju Tu hu
      refine one n' i u i0 (by omega) Ju Tu hu fun t Jt _ _ => ?_
      have := Jt.2.2.1
      have := own_cb_le t F
      omega
    | succ d ih =>
      intro n' i u hd i0 i1 Ju Tu hu
      have e : (i + 1).toInt = i.toInt + 1 := by rw [i32_add] <;> simp <;> omega
      exact one n' i u i0 (by omega) Ju Tu hu fun t Jt Tt ht => ih (n' + 1) (i + 1) t (by omega) (by omega) (by omega) Jt Tt ht
  have nF : n ≤ F := by rw [J.2.2.1]; exact own_cb_le s F
  exact key (F - n) n 0 s (by omega) (by decide) (by show (0 : Int) + _ < _; omega) J (own_T_rfl s) hh
/-- a free clean buffer takes a block that no buffer has -/
theorem own_take (B F P : Nat) (L : Nat → Nat → Int32) (t : St) (m : Nat) (k b : Int32) (J : own_J B F P L t m) (hk : 0 ≤ k.toInt ∧ k.toInt < F) (hb : 0 ≤ b.toInt ∧ b.toInt < B) (nb : ∀ l, l < F → gI t 4 l ≠ b) (k7 : gI t 7 (ix k) = 0) (hc : gI t 6 (ix k) = 0 ∨ gI t 5 (ix k) = 0 ∨ (gI t 4 (ix k)).toInt < 0) : own_J B F P L (sI (sI (sI t 4 (ix k) b) 5 (ix k) 0) 6 (ix k) 0) m := by
  obtain ⟨⟨c14, c15, c16, cr⟩, hn, hc', hq, hd, ⟨b1, b2, b3⟩, hA, hN⟩ := J
  have xk := ix_int hk.1
  have xb := ix_int hb.1
  generalize hT : sI (sI (sI t 4 (ix k) b) 5 (ix k) 0) 6 (ix k) 0 = T
  have tc : ∀ c j, ((c ≠ 4 ∧ c ≠ 5 ∧ c ≠ 6) ∨ j ≠ ix k) → gI T c j = gI t c j := fun c j a => by
    subst hT; rw [gI_sI, if_neg (by omega), gI_sI, if_neg (by omega), gI_sI, if_neg (by omega)]
  have T4 : gI T 4 (ix k) = b := by subst hT; simp [gI_sI]
  have T5 : gI T 5 (ix k) = 0 := by subst hT; simp [gI_sI]
  clear hT
  have h1 : ∀ j, gI T 1 j = gI t 1 j := fun j => tc 1 j (by omega)
  have h3 : ∀ j, gI T 3 j = gI t 3 j := fun j => tc 3 j (by omega)
  have h7 : ∀ j, gI T 7 j = gI t 7 j := fun j => tc 7 j (by omega)
  refine ⟨⟨by rw [tc 0 14 (by omega), c14], by rw [tc 0 15 (by omega), c15], by rw [tc 0 16 (by omega), c16], cr⟩, by rw [tc 0 30 (by omega), hn], by rw [hc']; exact (own_cb_eq (fun j _ => h7 j)).symm, fun i hi => ?_, fun i j hi hj e => ?_, ⟨fun l hl => ?_, fun l m hl hm e e0 => ?_, fun l hl l0 lv ld w hw => ?_⟩, fun b' b0 bB w hw => ⟨fun l hl e v => ?_, fun ha => ?_⟩, fun b' bB kn w hw => ?_⟩
  · obtain ⟨p1, p2, p3, p4, p5⟩ := hq i hi
    have nk : ix (gI t 10 i) ≠ ix k := fun q => p4 (by rw [q]; exact k7)
    unfold own_q1
    rw [tc 10 i (by omega), tc 11 i (by omega), tc 12 i (by omega), tc 4 _ (Or.inr nk), tc 5 _ (Or.inr nk), h7]
    exact ⟨p1, p2, p3, p4, p5⟩
  · rw [tc 10 i (by omega), tc 10 j (by omega)] at e; exact hd i j hi hj e
  · by_cases z : l = ix k
    · rw [z, T4]; exact Or.inr hb
    · rw [tc 4 l (Or.inr z)]; exact b1 l hl
  · by_cases z : l = ix k
    · by_cases z' : m = ix k
      · omega
      · rw [z, T4, tc 4 m (Or.inr z')] at e; exact absurd e.symm (nb m hm)
    · by_cases z' : m = ix k
      · rw [z', T4, tc 4 l (Or.inr z)] at e; exact absurd e (nb l hl)
      · rw [tc 4 l (Or.inr z), tc 4 m (Or.inr z')] at e
        rw [tc 4 l (Or.inr z)] at e0
        exact b2 l m hl hm e e0
  · by_cases z : l = ix k
    · rw [z, T5] at lv; exact absurd rfl lv
    · rw [tc 4 l (Or.inr z)] at l0 ⊢
      rw [tc 5 l (Or.inr z)] at lv
      rw [tc 6 l (Or.inr z)] at ld
      rw [h3, h1]; exact b3 l hl l0 lv ld w hw
  · by_cases z : l = ix k
    · rw [z, T5] at v; exact absurd rfl v
    · rw [tc 4 l (Or.inr z)] at e
      rw [tc 5 l (Or.inr z)] at v
      rw [h3]; exact (hA b' b0 bB w hw).1 l hl e v
  · rw [h1]
    by_cases z : gI t 4 (ix k) = b'
    · by_cases v : gI t 5 (ix k) = 0
      · refine (hA b' b0 bB w hw).2 fun l hl e => ?_
        rw [b2 l (ix k) hl (by omega) (by rw [e, z]) (by rw [e]; exact b0)]; exact v
      · have d : gI t 6 (ix k) = 0 := by
          rcases hc with q | q | q
          · exact q
          · exact absurd q v
          · rw [z] at q; omega
        have a := (hA b' b0 bB w hw).1 (ix k) (by omega) z v
        have c := b3 (ix k) (by omega) (by rw [z]; exact b0) v d w hw
        rw [z] at c
        rw [← a, c]
    · refine (hA b' b0 bB w hw).2 fun l hl e => ?_
      have zl : l ≠ ix k := fun q => z (by rw [← q]; exact e)
      have := ha l hl (by rw [tc 4 l (Or.inr zl)]; exact e)
      rw [tc 5 l (Or.inr zl)] at this; exact this
  · rw [tc 2 _ (by omega)] at kn; rw [h1]; exact hN b' bB kn w hw
theorem own_22 (F : Nat) (s : St) (k : Int32) (hF : (gI s 0 15).toInt = F) (hk : 0 ≤ k.toInt ∧ k.toInt < F) (Q : Int32 → St → Prop) (h : Q 1 s) : calI PP 22 16 [.ref 0, .int k] s Q := by
  apply c22_in
  exact ⟨fun q => absurd q (by rw [i32_lt]; simp; omega), fun _ => ⟨fun _ => h, fun q => absurd (by rw [i32_lt, hF]; exact hk.2) q⟩⟩
/-- getBlock -/
theorem own_32 (B F P : Nat) (L : Nat → Nat → Int32) (s : St) (n : Nat) (p b r : Int32) (J : own_J B F P L s n) (hf : ∃ k, k < F ∧ gI s 8 k = 0) (hh : ∀ k, k < F → gI s 8 k ≠ 0 → gI s 7 k = 0 ∧ gI s 4 k ≠ b) (hv : ∀ k, k < F → 0 ≤ (gI s 4 k).toInt → gI s 5 k ≠ 0) (hb : 0 ≤ b.toInt ∧ b.toInt < B) (Q : Int32 → St → Prop)
    (h : ∀ t m (k : Int32), own_J B F P L t m → (0 ≤ k.toInt ∧ k.toInt < F) → gI t 4 (ix k) = b → gI t 7 (ix k) = 0 → gI s 8 (ix k) = 0 → (∀ l, gI t 8 l = if l = ix k then 1 else gI s 8 l) → (∀ l, l ≠ ix k → gI t 4 l = gI s 4 l) → (∀ l, l < F → l ≠ ix k → 0 ≤ (gI t 4 l).toInt → gI t 5 l ≠ 0) → (r ≠ 0 → gI t 5 (ix k) ≠ 0) → (∀ c j, (c = 2 ∨ c = 13 ∨ c = 14 ∨ c = 15) → gI t c j = gI s c j) → Q k t) : calI PP 32 16 [.ref 0, .int p, .int b, .int r] s Q := by
  obtain ⟨c14, c15, c16, B8, B32, F2, F8, P1, P4⟩ := J.1
  have xb := ix_int hb.1
  -- from the buffer that has the block
  have fin : ∀ t m (k : Int32), own_J B F P L t m → (0 ≤ k.toInt ∧ k.toInt < F) → gI t 4 (ix k) = b → gI t 7 (ix k) = 0 → gI s 8 (ix k) = 0 → (∀ l, gI t 8 l = gI s 8 l) → (∀ l, l ≠ ix k → gI t 4 l = gI s 4 l) → (∀ l, l < F → l ≠ ix k → 0 ≤ (gI t 4 l).toInt → gI t 5 l ≠ 0) → (∀ c j, (c = 2 ∨ c = 13 ∨ c = 14 ∨ c = 15) → gI t c j = gI s c j) → wpcI PP 32 cm32 16 59 [some (.ref 0), some (.int p), some (.int b), some (.int r), some (.int k)] [] t Q := by
    intro t m k Jt hk e4 e7 s8 t8 t4 tv tc
    have xk := ix_int hk.1
    have kb : inb 8 k := ⟨hk.1, by show _ < (8 : Int); omega⟩
    refine c32_59 _ _ _ _ _ _ ⟨kb, c30_in _ _ _ ⟨kb, ?_⟩⟩
    generalize hU : sI (sI (sI t 8 (ix k) 1) 0 26 (gI (sI t 8 (ix k) 1) 0 26 + 1)) 9 (ix k) (gI (sI t 8 (ix k) 1) 0 26 + 1) = U
    have uc : ∀ c j, c ≠ 8 → c ≠ 9 → (c = 0 → j ≠ 26) → gI U c j = gI t c j := fun c j a b d => by
      subst hU; rw [gI_sI, if_neg (by omega), gI_sI, if_neg (fun q => d q.1 q.2), gI_sI, if_neg (by omega)]
    have u8 : ∀ l, gI U 8 l = if l = ix k then 1 else gI s 8 l := fun l => by
      subst hU; rw [gI_sI, if_neg (by omega), gI_sI, if_neg (by omega), gI_sI]
      by_cases z : l = ix k
      · rw [if_pos ⟨rfl, z⟩, if_pos z]
      · rw [if_neg (fun q => z q.2), if_neg z, t8]
    clear hU
    have JU : own_J B F P L U m := own_J_fr Jt fun c j hc => uc c j (by omega) (by omega) (by omega)
    have U4 : gI U 4 (ix k) = b := by rw [uc 4 _ (by decide) (by decide) (by omega), e4]
    have U7 : gI U 7 (ix k) = 0 := by rw [uc 7 _ (by decide) (by decide) (by omega), e7]
    have U4l : ∀ l, l ≠ ix k → gI U 4 l = gI s 4 l := fun l hl => by rw [uc 4 _ (by decide) (by decide) (by omega), t4 l hl]
    have Uv : ∀ l, l < F → l ≠ ix k → 0 ≤ (gI U 4 l).toInt → gI U 5 l ≠ 0 := fun l a b c => by
      rw [uc 4 _ (by decide) (by decide) (by omega)] at c
      rw [uc 5 _ (by decide) (by decide) (by omega)]; exact tv l a b c
    have Uc : ∀ c j, (c = 2 ∨ c = 13 ∨ c = 14 ∨ c = 15) → gI U c j = gI s c j := fun c j hc => by rw [uc c j (by omega) (by omega) (by omega), tc c j hc]
    refine ⟨fun r0 => h U m k JU hk U4 U7 s8 u8 U4l Uv (fun q => absurd r0 q) Uc, fun r1 => ⟨kb, fun v0 => ?_, fun v1 => h U m k JU hk U4 U7 s8 u8 U4l Uv (fun _ => v1) Uc⟩⟩
    refine own_36 B F P L U m k b 0 JU hk hb U4 U7 (Or.inl ⟨rfl, v0⟩) _ fun V JV vc => ⟨fun q => absurd q (by decide), fun _ => ⟨kb, c32_106 _ _ _ _ ?_⟩⟩
    have w7 : gI (sI V 7 (ix k) 1) 7 (ix k) ≠ 0 := by rw [gI_sI, if_pos ⟨rfl, rfl⟩]; decide
    have wc : ∀ c j, c ≠ 7 → c ≠ 10 → c ≠ 11 → c ≠ 12 → (c = 0 → j ≠ 30) → gI (sI V 7 (ix k) 1) c j = gI U c j := fun c j a b d e f => by rw [gI_sI, if_neg (fun q => a q.1), vc c j b d e f]
    refine own_35 B F P L _ (m + 1) p k JV hk _ fun W m' JW TW W7 => h W m' k JW hk ?_ W7 s8 (fun l => ?_) (fun l hl => ?_) (fun l a b c => ?_) (fun _ => (TW.2 (ix k)).2.2 w7 W7) (fun c j hc => ?_)
    · rw [TW.1 4 _ (by omega), wc 4 _ (by decide) (by decide) (by decide) (by decide) (by omega), U4]
    · rw [TW.1 8 _ (by omega), wc 8 _ (by decide) (by decide) (by decide) (by decide) (by omega), u8]
    · rw [TW.1 4 _ (by omega), wc 4 _ (by decide) (by decide) (by decide) (by decide) (by omega), U4l l hl]
    · rw [TW.1 4 _ (by omega), wc 4 _ (by decide) (by decide) (by decide) (by decide) (by omega)] at c
      refine (TW.2 l).1 ?_
      rw [wc 5 _ (by decide) (by decide) (by decide) (by decide) (by omega)]
      exact Uv l a b c
    · rw [TW.1 c j (by omega), wc c j (by omega) (by omega) (by omega) (by omega) (by omega), Uc c j hc]
  apply c32_in
  refine own_31 F s b c15 F8 _ (fun k k0 k1 e4 => ?_) (fun nf => ?_)
  · have xk := ix_int k0
    refine ⟨fun q => absurd q (by rw [i32_lt]; simp; omega), fun _ => ?_⟩
    have s8 : gI s 8 (ix k) = 0 := Classical.byContradiction fun q => (hh (ix k) (by omega) q).2 e4
    refine own_35 B F P L s n p k J ⟨k0, k1⟩ _ fun t m Jt Tt t7 => fin t m k Jt ⟨k0, k1⟩ (by rw [Tt.1 4 _ (by omega), e4]) t7 s8 (fun l => Tt.1 8 l (by omega)) (fun l _ => Tt.1 4 l (by omega)) (fun l hl _ l0 => ?_) (fun c j hc => Tt.1 c j (by omega))
    rw [Tt.1 4 l (by omega)] at l0
    exact (Tt.2 l).1 (hv l hl l0)
  · refine ⟨fun _ => ?_, fun q => absurd (by decide) q⟩
    refine own_33 B F P L s n J hf (fun k hk q => (hh k hk q).1) _ fun t m k Jt Tt k0 k1 t7 t8 tcl => ?_
    have xk := ix_int k0
    have kb : inb 8 k := ⟨k0, by show _ < (8 : Int); omega⟩
    refine ⟨fun q => absurd q (by rw [i32_lt]; simp; omega), fun _ => ⟨kb, kb, kb, ?_⟩⟩
    have JT := own_take B F P L t m k b Jt ⟨k0, k1⟩ hb (fun l hl => by rw [Tt.1 4 l (by omega)]; exact nf l hl) t7 tcl
    have oc : ∀ c j, ((c ≠ 4 ∧ c ≠ 5 ∧ c ≠ 6) ∨ j ≠ ix k) → gI (sI (sI (sI t 4 (ix k) b) 5 (ix k) 0) 6 (ix k) 0) c j = gI t c j := fun c j a => by
      rw [gI_sI, if_neg (by omega), gI_sI, if_neg (by omega), gI_sI, if_neg (by omega)]
    refine fin _ m k JT ⟨k0, k1⟩ (by simp [gI_sI]) (by rw [oc 7 _ (by omega), t7]) (by rw [← Tt.1 8 _ (by omega), t8]) (fun l => by rw [oc 8 _ (by omega), Tt.1 8 _ (by omega)]) (fun l hl => by rw [oc 4 _ (Or.inr hl), Tt.1 4 _ (by omega)]) (fun l hl lk l0 => ?_) (fun c j hc => by rw [oc c j (by omega), Tt.1 c j (by omega)])
    rw [oc 4 _ (Or.inr lk), Tt.1 4 _ (by omega)] at l0
    rw [oc 5 _ (Or.inr lk)]
    exact (Tt.2 l).1 (hv l hl l0)
/-- new contents of a block in a buffer -/
theorem own_put (B F P : Nat) (L L' : Nat → Nat → Int32) (t u : St) (m : Nat) (k b : Int32) (J : own_J B F P L t m) (hk : 0 ≤ k.toInt ∧ k.toInt < F) (hb : 0 ≤ b.toInt ∧ b.toInt < B) (e4 : gI t 4 (ix k) = b) (e7 : gI t 7 (ix k) = 0) (hL : ∀ b', b' ≠ ix b → ∀ w, L' b' w = L b' w)
    (u3 : ∀ w, w < 4 → gI u 3 (4 * ix k + w) = L' (ix b) w) (u3' : ∀ j, j < 4 * ix k ∨ 4 * ix k + 4 ≤ j → gI u 3 j = gI t 3 j) (u5 : gI u 5 (ix k) ≠ 0) (u5' : ∀ l, l ≠ ix k → gI u 5 l = gI t 5 l) (u6 : gI u 6 (ix k) ≠ 0) (u6' : ∀ l, l ≠ ix k → gI u 6 l = gI t 6 l) (u2 : gI u 2 (ix b) = 0) (u2' : ∀ j, j ≠ ix b → gI u 2 j = gI t 2 j) (uc : ∀ c j, (c = 1 ∨ c = 4 ∨ c = 7 ∨ 10 ≤ c ∧ c ≤ 12 ∨ (c = 0 ∧ j ≠ 26 ∧ j ≠ 31)) → gI u c j = gI t c j) : own_J B F P L' u m := by
  obtain ⟨⟨c14, c15, c16, cr⟩, hn, hc', hq, hd, ⟨b1, b2, b3⟩, hA, hN⟩ := J
  have xk := ix_int hk.1
  have xb := ix_int hb.1
  have h1 : ∀ j, gI u 1 j = gI t 1 j := fun j => uc 1 j (by omega)
  have h4 : ∀ j, gI u 4 j = gI t 4 j := fun j => uc 4 j (by omega)
  have h7 : ∀ j, gI u 7 j = gI t 7 j := fun j => uc 7 j (by omega)
  have ob : ∀ l, l < F → l ≠ ix k → gI t 4 l ≠ b := fun l hl z q => z (b2 l (ix k) hl (by omega) (by rw [q, e4]) (by rw [q]; exact hb.1))
  refine ⟨⟨by rw [uc 0 14 (by omega), c14], by rw [uc 0 15 (by omega), c15], by rw [uc 0 16 (by omega), c16], cr⟩, by rw [uc 0 30 (by omega), hn], by rw [hc']; exact (own_cb_eq (fun j _ => h7 j)).symm, fun i hi => ?_, fun i j hi hj e => ?_, ⟨fun l hl => ?_, fun l m hl hm e e0 => ?_, fun l hl l0 lv ld w hw => ?_⟩, fun b' b0 bB w hw => ⟨fun l hl e v => ?_, fun ha => ?_⟩, fun b' bB kn w hw => ?_⟩
  · obtain ⟨p1, p2, p3, p4, p5⟩ := hq i hi
    have nk : ix (gI t 10 i) ≠ ix k := fun q => p4 (by rw [q]; exact e7)
    unfold own_q1
    rw [uc 10 i (by omega), uc 11 i (by omega), uc 12 i (by omega), h4, u5' _ nk, h7]
    exact ⟨p1, p2, p3, p4, p5⟩
  · rw [uc 10 i (by omega), uc 10 j (by omega)] at e; exact hd i j hi hj e
  · rw [h4]; exact b1 l hl
  · rw [h4, h4] at e; rw [h4] at e0; exact b2 l m hl hm e e0
  · by_cases z : l = ix k
    · rw [z] at ld; exact absurd ld u6
    · rw [h4] at l0 ⊢
      rw [u5' l z] at lv
      rw [u6' l z] at ld
      rw [u3' _ (by omega), h1]; exact b3 l hl l0 lv ld w hw
  · rw [h4] at e
    by_cases z : l = ix k
    · rw [z, e4] at e; subst e; rw [z]; exact u3 w hw
    · rw [u5' l z] at v
      have zb : ix b' ≠ ix b := fun q => ob l hl z (by rw [e]; exact (ix_inj b0 hb.1).mp q)
      rw [u3' _ (by omega), hL _ zb]
      exact (hA b' b0 bB w hw).1 l hl e v
  · rw [h1]
    by_cases z : b' = b
    · subst z; exact absurd (ha (ix k) (by omega) (by rw [h4, e4])) u5
    · rw [hL _ (fun q => z ((ix_inj b0 hb.1).mp q))]
      refine (hA b' b0 bB w hw).2 fun l hl e => ?_
      have zl : l ≠ ix k := fun q => z (by rw [← e, q, e4])
      have := ha l hl (by rw [h4]; exact e)
      rw [u5' l zl] at this; exact this
  · by_cases z : b' = ix b
    · rw [z] at kn; exact absurd u2 kn
    · rw [u2' _ z] at kn; rw [h1, hL _ z]; exact hN b' bB kn w hw
/-- between the calls -/
def own_O (B F P : Nat) (L : Nat → Nat → Int32) (s : St) : Prop := (∃ n, own_J B F P L s n) ∧ (∀ k, k < F → gI s 8 k = 0) ∧ (∀ k, k < F → 0 ≤ (gI s 4 k).toInt → gI s 5 k ≠ 0)
theorem own_bp (P : Nat) (s : St) (p : Int32) (hP : (gI s 0 16).toInt = P) (Q : Int32 → St → Prop) (h : Q (if 0 ≤ p.toInt ∧ p.toInt < P then 0 else 1) s) : calI PP 19 16 [.ref 0, .int p] s Q := by
  apply c19_in
  refine ⟨fun a => ?_, fun a => ⟨fun b => ?_, fun b => ?_⟩⟩
  · rw [i32_lt] at a; simp at a; rw [if_neg (by omega)] at h; exact h
  · rw [i32_lt] at a b; simp at a; rw [if_pos (by omega)] at h; exact h
  · rw [i32_lt] at a b; simp at a; rw [if_neg (by omega)] at h; exact h
theorem own_bb (B : Nat) (s : St) (p : Int32) (hB : (gI s 0 14).toInt = B) (Q : Int32 → St → Prop) (h : Q (if 0 ≤ p.toInt ∧ p.toInt < B then 0 else 1) s) : calI PP 20 16 [.ref 0, .int p] s Q := by
  apply c20_in
  refine ⟨fun a => ?_, fun a => ⟨fun b => ?_, fun b => ?_⟩⟩
  · rw [i32_lt] at a; simp at a; rw [if_neg (by omega)] at h; exact h
  · rw [i32_lt] at a b; simp at a; rw [if_pos (by omega)] at h; exact h
  · rw [i32_lt] at a b; simp at a; rw [if_neg (by omega)] at h; exact h
theorem own_bw (s : St) (p : Int32) (Q : Int32 → St → Prop) (h : Q (if 0 ≤ p.toInt ∧ p.toInt < 4 then 0 else 1) s) : calI PP 21 16 [.ref 0, .int p] s Q := by
  apply c21_in
  refine ⟨fun a => ?_, fun a => ⟨fun b => ?_, fun b => ?_⟩⟩
  · rw [i32_lt] at a; simp at a; rw [if_neg (by omega)] at h; exact h
  · rw [i32_lt] at a b; simp at a b; rw [if_pos (by omega)] at h; exact h
  · rw [i32_lt] at a b; simp at a b; rw [if_neg (by omega)] at h; exact h
def own_up (L : Nat → Nat → Int32) (b w : Nat) (v : Int32) : Nat → Nat → Int32 := fun b' w' => if b' = b ∧ w' = w then v else L b' w'
theorem own_29 (F : Nat) (s : St) (k : Int32) (hF : (gI s 0 15).toInt = F) (h8 : F ≤ 8) (hk : 0 ≤ k.toInt ∧ k.toInt < F) (Q : St → Prop) (h : Q (sI s 8 (ix k) 0)) : calV PP 29 16 [.ref 0, .int k] s Q := by
  apply c29_in
  exact own_22 F s k hF hk _ ⟨fun q => absurd q (by decide), fun _ => ⟨⟨hk.1, by show _ < (8 : Int); omega⟩, h⟩⟩
/-- write -/
theorem own_6 (B F P : Nat) (L : Nat → Nat → Int32) (s : St) (p b w v : Int32) (O : own_O B F P L s) (Q : Int32 → St → Prop)
    (hp : ¬ (0 ≤ p.toInt ∧ p.toInt < P) → Q (-2) s) (hb : (0 ≤ p.toInt ∧ p.toInt < P) → ¬ (0 ≤ b.toInt ∧ b.toInt < B) → Q (-3) s) (hw : (0 ≤ p.toInt ∧ p.toInt < P) → (0 ≤ b.toInt ∧ b.toInt < B) → ¬ (0 ≤ w.toInt ∧ w.toInt < 4) → Q (-4) s)
    (h : (0 ≤ p.toInt ∧ p.toInt < P) → (0 ≤ b.toInt ∧ b.toInt < B) → (0 ≤ w.toInt ∧ w.toInt < 4) → ∀ t, own_O B F P (own_up L (ix b) (ix w) (v &&& 65535)) t → (∀ j, gI t 2 j = if j = ix b then 0 else gI s 2 j) → (∀ j, gI t 15 j = if j = ix p then gI s 15 (ix p) + 1 else gI s 15 j) → (∀ c j, c = 13 ∨ c = 14 → gI t c j = gI s c j) → Q 0 t) : calI PP 6 16 [.ref 0, .int p, .int b, .int w, .int v] s Q := by
  obtain ⟨⟨n, J⟩, o8, ov⟩ := O
  obtain ⟨c14, c15, c16, B8, B32, F2, F8, P1, P4⟩ := J.1
  apply c6_in
  refine own_bp P s p c16 _ ?_
  by_cases yp : 0 ≤ p.toInt ∧ p.toInt < P
  rotate_left
  · rw [if_neg yp]; exact ⟨fun q => absurd q (by decide), fun _ => hp yp⟩
  rw [if_pos yp]
  refine ⟨fun _ => own_bb B s b c14 _ ?_, fun q => absurd rfl q⟩
  by_cases yb : 0 ≤ b.toInt ∧ b.toInt < B
  rotate_left
  · rw [if_neg yb]; exact ⟨fun q => absurd q (by decide), fun _ => hb yp yb⟩
  rw [if_pos yb]
  refine ⟨fun _ => own_bw s w _ ?_, fun q => absurd rfl q⟩
  by_cases yw : 0 ≤ w.toInt ∧ w.toInt < 4
  rotate_left
  · rw [if_neg yw]; exact ⟨fun q => absurd q (by decide), fun _ => hw yp yb yw⟩
  rw [if_pos yw]
  refine ⟨fun _ => ?_, fun q => absurd rfl q⟩
  refine own_32 B F P L s n p b 1 J ⟨0, by omega, o8 0 (by omega)⟩ (fun k hk q => absurd (o8 k hk) q) ov yb _ fun t m k Jt hk e4 e7 s8 t8 t4 tv tr tc => ?_
  have t15 : (gI t 0 15).toInt = F := Jt.1.2.1
  have xk := ix_int hk.1
  have xb := ix_int yb.1
  have xw := ix_int yw.1
  have xp := ix_int yp.1
  obtain ⟨f1, f2⟩ := own_x4 (k := k) (w := w) (N := 32) (by omega) (by decide) yw
  have kb : inb 8 k := ⟨hk.1, by show _ < (8 : Int); omega⟩
  apply c25_in
  refine own_22 F t k t15 hk _ ⟨fun q => absurd q (by decide), fun _ => ⟨⟨by omega, by show _ < (32 : Int); omega⟩, ?_⟩⟩
  rw [f2]
  apply c27_in
  refine own_22 F _ k (by rw [gI_sI, if_neg (by omega), t15]) hk _ ⟨fun q => absurd q (by decide), fun _ => ⟨kb, ?_⟩⟩
  refine own_29 F _ k (by rw [gI_sI, if_neg (by omega), gI_sI, if_neg (by omega), t15]) F8 hk _ ?_
  have pb : inb 4 p := ⟨yp.1, by show _ < (4 : Int); omega⟩
  refine ⟨⟨yb.1, by show _ < (32 : Int); omega⟩, pb, pb, ?_⟩
  generalize hU : sI (sI (sI t 3 (4 * ix k + ix w) (v &&& 65535)) 6 (ix k) 1) 8 (ix k) 0 = U
  have U15 : gI U 15 (ix p) = gI s 15 (ix p) := by subst hU; rw [gI_sI, if_neg (by omega), gI_sI, if_neg (by omega), gI_sI, if_neg (by omega), tc 15 _ (by omega)]
  rw [U15]
  generalize hV : sI (sI U 2 (ix b) 0) 15 (ix p) (gI s 15 (ix p) + 1) = V
  have vc : ∀ c j, c ≠ 2 → c ≠ 3 → c ≠ 6 → c ≠ 8 → c ≠ 15 → gI V c j = gI t c j := fun c j a b d e f => by
    subst hV hU; rw [gI_sI, if_neg (by omega), gI_sI, if_neg (by omega), gI_sI, if_neg (by omega), gI_sI, if_neg (by omega), gI_sI, if_neg (by omega)]
  have v3 : ∀ j, gI V 3 j = if j = 4 * ix k + ix w then v &&& 65535 else gI t 3 j := fun j => by
    subst hV hU; rw [gI_sI, if_neg (by omega), gI_sI, if_neg (by omega), gI_sI, if_neg (by omega), gI_sI, if_neg (by omega), gI_sI]; simp
  have v6 : ∀ j, gI V 6 j = if j = ix k then 1 else gI t 6 j := fun j => by
    subst hV hU; rw [gI_sI, if_neg (by omega), gI_sI, if_neg (by omega), gI_sI, if_neg (by omega), gI_sI, gI_sI, if_neg (show ¬ (6 = 3 ∧ j = 4 * ix k + ix w) by omega)]; simp
  have v8 : ∀ j, gI V 8 j = if j = ix k then 0 else gI t 8 j := fun j => by
    subst hV hU; rw [gI_sI, if_neg (by omega), gI_sI, if_neg (by omega), gI_sI, gI_sI, if_neg (show ¬ (8 = 6 ∧ j = ix k) by omega), gI_sI, if_neg (show ¬ (8 = 3 ∧ j = 4 * ix k + ix w) by omega)]; simp
  have v2 : ∀ j, gI V 2 j = if j = ix b then 0 else gI s 2 j := fun j => by
    subst hV hU; rw [gI_sI, if_neg (by omega), gI_sI, gI_sI, if_neg (show ¬ (2 = 8 ∧ j = ix k) by omega), gI_sI, if_neg (show ¬ (2 = 6 ∧ j = ix k) by omega), gI_sI, if_neg (show ¬ (2 = 3 ∧ j = 4 * ix k + ix w) by omega), tc 2 _ (by omega)]; simp
  have v15 : ∀ j, gI V 15 j = if j = ix p then gI s 15 (ix p) + 1 else gI s 15 j := fun j => by
    subst hV hU; rw [gI_sI, gI_sI, if_neg (show ¬ (15 = 2 ∧ j = ix b) by omega), gI_sI, if_neg (show ¬ (15 = 8 ∧ j = ix k) by omega), gI_sI, if_neg (show ¬ (15 = 6 ∧ j = ix k) by omega), gI_sI, if_neg (show ¬ (15 = 3 ∧ j = 4 * ix k + ix w) by omega), tc 15 _ (by omega)]; simp
  clear hV hU U15
  have old : ∀ w', w' < 4 → gI t 3 (4 * ix k + w') = L (ix b) w' := fun w' hw' => (Jt.2.2.2.2.2.2.1 b yb.1 yb.2 w' hw').1 (ix k) (by omega) e4 (tr (by decide))
  refine h yp yb yw V ⟨⟨m, own_put B F P L _ t V m k b Jt hk yb e4 e7 (fun b' hb' w' => ?_) (fun w' hw' => ?_) (fun j hj => ?_) ?_ (fun l hl => ?_) ?_ (fun l hl => ?_) ?_ (fun j hj => ?_) (fun c j hc => vc c j (by omega) (by omega) (by omega) (by omega) (by omega))⟩, fun l hl => ?_, fun l hl l0 => ?_⟩ v2 v15 (fun c j hc => by rw [vc c j (by omega) (by omega) (by omega) (by omega) (by omega), tc c j (by omega)])
  · unfold own_up; rw [if_neg (fun q => hb' q.1)]
  · unfold own_up
    rw [v3]
    by_cases z : w' = ix w
    · rw [if_pos (by omega), if_pos ⟨rfl, z⟩]
    · rw [if_neg (by omega), if_neg (fun q => z q.2), old w' hw']
  · rw [v3, if_neg (by omega)]
  · rw [vc 5 _ (by decide) (by decide) (by decide) (by decide) (by decide)]; exact tr (by decide)
  · rw [vc 5 _ (by decide) (by decide) (by decide) (by decide) (by decide)]
  · rw [v6, if_pos rfl]; decide
  · rw [v6, if_neg hl]
  · rw [v2, if_pos rfl]
  · rw [v2, if_neg hj, tc 2 _ (by omega)]
  · rw [v8]
    by_cases z : l = ix k
    · rw [if_pos z]
    · rw [if_neg z, t8, if_neg z, o8 l hl]
  · rw [vc 4 _ (by decide) (by decide) (by decide) (by decide) (by decide)] at l0
    rw [vc 5 _ (by decide) (by decide) (by decide) (by decide) (by decide)]
    by_cases z : l = ix k
    · rw [z]; exact tr (by decide)
    · exact tv l hl z l0
/-- diskWord -/
theorem own_12 (B F P : Nat) (L : Nat → Nat → Int32) (s : St) (b w : Int32) (O : own_O B F P L s) (Q : Int32 → St → Prop)
    (h : Q (if 0 ≤ b.toInt ∧ b.toInt < B then (if 0 ≤ w.toInt ∧ w.toInt < 4 then (if gI s 2 (ix b) = 0 then -1 else L (ix b) (ix w)) else -4) else -3) s) : calI PP 12 16 [.ref 0, .int b, .int w] s Q := by
  obtain ⟨⟨n, J⟩, o8, ov⟩ := O
  obtain ⟨c14, c15, c16, B8, B32, F2, F8, P1, P4⟩ := J.1
  apply c12_in
  refine own_bb B s b c14 _ ?_
  by_cases yb : 0 ≤ b.toInt ∧ b.toInt < B
  rotate_left
  · rw [if_neg yb] at h ⊢; exact ⟨fun q => absurd q (by decide), fun _ => h⟩
  rw [if_pos yb] at h ⊢
  refine ⟨fun _ => own_bw s w _ ?_, fun q => absurd rfl q⟩
  by_cases yw : 0 ≤ w.toInt ∧ w.toInt < 4
  rotate_left
  · rw [if_neg yw] at h ⊢; exact ⟨fun q => absurd q (by decide), fun _ => h⟩
  rw [if_pos yw] at h ⊢
  have xb := ix_int yb.1
  have xw := ix_int yw.1
  obtain ⟨f1, f2⟩ := own_x4 (k := b) (w := w) (N := 32) (by omega) (by decide) yw
  refine ⟨fun _ => ⟨⟨yb.1, by show _ < (32 : Int); omega⟩, fun a => ?_, fun a => ⟨⟨by omega, by show _ < (128 : Int); omega⟩, ?_⟩⟩, fun q => absurd rfl q⟩
  · rw [if_pos a] at h; exact h
  · rw [if_neg a] at h
    rw [f2, J.2.2.2.2.2.2.2 (ix b) (by omega) a (ix w) (by omega)]; exact h
/-- how many of the first blocks are not known -/
def own_uc (s : St) : Nat → Nat
  | 0 => 0
  | k + 1 => own_uc s k + (if gI s 2 k = 0 then 1 else 0)
theorem own_uc_le (s : St) : ∀ k, own_uc s k ≤ k
  | 0 => Nat.le_refl _
  | k + 1 => by have := own_uc_le s k; unfold own_uc; split <;> omega
theorem own_uc0 {s : St} : ∀ {k}, (∀ j, j < k → gI s 2 j ≠ 0) → own_uc s k = 0
  | 0, _ => rfl
  | k + 1, h => by unfold own_uc; rw [own_uc0 (fun j hj => h j (by omega)), if_neg (h k (by omega))]
theorem own_13 (B F P : Nat) (L : Nat → Nat → Int32) (s : St) (O : own_O B F P L s) (Q : Int32 → St → Prop) (h : ∀ v : Int32, v.toInt = own_uc s B → Q v s) : calI PP 13 16 [.ref 0] s Q := by
  obtain ⟨⟨n, J⟩, o8, ov⟩ := O
  obtain ⟨c14, c15, c16, B8, B32, F2, F8, P1, P4⟩ := J.1
  apply c13_in
  refine loop_up (F := fun i => ∀ x : Int32, x.toInt = own_uc s (ix i) → wpcI PP 13 cm13 16 4 [some (.ref 0), some (.int x), some (.int i)] [] s Q) B (by omega) (fun i i0 i1 e ih x hx => ?_) (fun i hi x hx => ?_) 0 (by decide) (by simp) 0 (by simp [ix, own_uc])
  · have xi := ix_int i0
    have xj := ix_int (i := i + 1) (by omega)
    have ej : ix (i + 1) = ix i + 1 := by omega
    have le := own_uc_le s (ix i)
    refine c13_4 _ _ _ _ ⟨fun _ => ⟨⟨i0, by show _ < (32 : Int); omega⟩, fun m em => ih m ?_⟩, fun q => absurd (by rw [i32_lt, c14]; exact i1) q⟩
    rw [ej, own_uc, em]
    by_cases z : gI s 2 (ix i) = 0
    · have e1 : (x + 1).toInt = x.toInt + 1 := by rw [i32_add] <;> simp <;> omega
      rw [if_pos z, if_pos z, e1]; omega
    · rw [if_neg z, if_neg z]; omega
  · have xi := ix_int (i := i) (by omega)
    have : ix i = B := by omega
    rw [this] at hx
    exact c13_4 _ _ _ _ ⟨fun q => absurd q (by rw [i32_lt, c14]; omega), fun _ => h x hx⟩
/-- peekWord -/
theorem own_0 (x y z : Int32) (Q : St → Prop) (h : ∀ (B F P : Nat) t, (B : Int) = (if x < 8 then (8 : Int32) else if 32 < x then 32 else x).toInt → (F : Int) = (if y < 2 then (2 : Int32) else if 8 < y then 8 else y).toInt → (P : Int) = (if z < 1 then (1 : Int32) else if 4 < z then 4 else z).toInt → own_O B F P (fun _ _ => 0) t → (∀ j, j < 32 → gI t 2 j = 1) → (∀ j, j < 4 → gI t 13 j = -5) → (∀ j, gI t 14 j = 0) → (∀ j, gI t 15 j = 0) → Q t) : calV PP 0 0 [.ref 0, .int x, .int y, .int z] s0 Q := by
  apply c0_in
  apply own_clamp
  apply own_clamp
  apply own_clamp
  generalize eB : (if x < 8 then (8 : Int32) else if 32 < x then 32 else x) = B at h ⊢
  generalize eF : (if y < 2 then (2 : Int32) else if 8 < y then 8 else y) = F at h ⊢
  generalize eP : (if z < 1 then (1 : Int32) else if 4 < z then 4 else z) = P at h ⊢
  have rB := own_cl_rng (by decide) eB.symm
  have rF := own_cl_rng (by decide) eF.symm
  have rP := own_cl_rng (by decide) eP.symm
  simp at rB rF rP
  generalize hS : sI (sI (sI s0 0 14 B) 0 15 F) 0 16 P = S
  have h14 : gI S 0 14 = B := by subst hS; rfl
  have h15 : gI S 0 15 = F := by subst hS; rfl
  have h16 : gI S 0 16 = P := by subst hS; rfl
  have hz : ∀ c j, 1 ≤ c → gI S c j = 0 := fun c j hc => by
    subst hS; rw [gI_sI, if_neg (by omega), gI_sI, if_neg (by omega), gI_sI, if_neg (by omega)]; rfl
  clear hS eB eF eP
  refine loop_up (F := fun i => ∀ u, (∀ c j, c ≠ 2 → gI u c j = gI S c j) → (∀ j, j < ix i → gI u 2 j = 1) → wpcV PP 0 cm0 16 168 [some (.ref 0), none, none, none, some (.int i)] [] u Q) 32 (by decide) (fun i i0 i1 e ih u ua ub => ?_) (fun i hi u ua ub => ?_) 0 (by decide) (by decide) S (fun _ _ _ => rfl) (fun j hj => absurd hj (by simp [ix]))
  · have xi := ix_int i0
    have xj := ix_int (i := i + 1) (by omega)
    refine c0_168 _ _ _ ⟨fun _ => ⟨⟨i0, i1⟩, ih _ (fun c j a => by rw [gI_sI, if_neg (fun q => a q.1), ua c j a]) fun j hj => ?_⟩, fun q => absurd (by rw [i32_lt]; exact i1) q⟩
    rw [gI_sI]
    by_cases w : j = ix i
    · rw [if_pos ⟨rfl, w⟩]
    · rw [if_neg (fun q => w q.2)]; exact ub j (by omega)
  have xi := ix_int (i := i) (by omega)
  have i32 : ix i = 32 := by omega
  rw [i32] at ub
  refine c0_168 _ _ _ ⟨fun q => absurd q (by rw [i32_lt, hi]; decide), fun _ => ?_⟩
  refine loop_up (F := fun i => ∀ v, (∀ c j, c ≠ 4 → gI v c j = gI u c j) → (∀ j, j < ix i → gI v 4 j = -1) → wpcV PP 0 cm0 16 192 [some (.ref 0), none, none, none, some (.int i)] [] v Q) 8 (by decide) (fun i i0 i1 e ih v va vb => ?_) (fun i hi v va vb => ?_) 0 (by decide) (by decide) u (fun _ _ _ => rfl) (fun j hj => absurd hj (by simp [ix]))
  · have xi := ix_int i0
    have xj := ix_int (i := i + 1) (by omega)
    refine c0_192 _ _ _ ⟨fun _ => ⟨⟨i0, i1⟩, ih _ (fun c j a => by rw [gI_sI, if_neg (fun q => a q.1), va c j a]) fun j hj => ?_⟩, fun q => absurd (by rw [i32_lt]; exact i1) q⟩
    rw [gI_sI]
    by_cases w : j = ix i
    · rw [if_pos ⟨rfl, w⟩]
    · rw [if_neg (fun q => w q.2)]; exact vb j (by omega)
  have xi := ix_int (i := i) (by omega)
  have i8 : ix i = 8 := by omega
  rw [i8] at vb
  refine c0_192 _ _ _ ⟨fun q => absurd q (by rw [i32_lt, hi]; decide), fun _ => ?_⟩
  refine loop_up (F := fun i => ∀ w, (∀ c j, c ≠ 13 → c ≠ 16 → gI w c j = gI v c j) → (∀ j, j < ix i → gI w 13 j = -5) → wpcV PP 0 cm0 16 216 [some (.ref 0), none, none, none, some (.int i)] [] w Q) 4 (by decide) (fun i i0 i1 e ih w wa wb => ?_) (fun i hi w wa wb => ?_) 0 (by decide) (by decide) v (fun _ _ _ _ => rfl) (fun j hj => absurd hj (by simp [ix]))
  · have xi := ix_int i0
    have xj := ix_int (i := i + 1) (by omega)
    refine c0_216 _ _ _ ⟨fun _ => ⟨⟨i0, i1⟩, ⟨i0, i1⟩, ih _ (fun c j a b => by rw [gI_sI, if_neg (fun q => b q.1), gI_sI, if_neg (fun q => a q.1), wa c j a b]) fun j hj => ?_⟩, fun q => absurd (by rw [i32_lt]; exact i1) q⟩
    rw [gI_sI, if_neg (by omega), gI_sI]
    by_cases w : j = ix i
    · rw [if_pos ⟨rfl, w⟩]
    · rw [if_neg (fun q => w q.2)]; exact wb j (by omega)
  have xi := ix_int (i := i) (by omega)
  have i4 : ix i = 4 := by omega
  rw [i4] at wb
  refine c0_216 _ _ _ ⟨fun q => absurd q (by rw [i32_lt, hi]; decide), fun _ => ?_⟩
  generalize hT : sI (sI (sI w 0 26 0) 0 30 0) 0 31 0 = T
  have tc : ∀ c j, c ≠ 2 → c ≠ 4 → c ≠ 13 → c ≠ 16 → (c = 0 → j ≠ 26 ∧ j ≠ 30 ∧ j ≠ 31) → gI T c j = gI S c j := fun c j a b d e f => by
    subst hT; rw [gI_sI, if_neg (fun q => (f q.1).2.2 q.2), gI_sI, if_neg (fun q => (f q.1).2.1 q.2), gI_sI, if_neg (fun q => (f q.1).1 q.2), wa c j d e, va c j b, ua c j a]
  have t30 : gI T 0 30 = 0 := by subst hT; simp [gI_sI]
  have t2 : ∀ j, j < 32 → gI T 2 j = 1 := fun j hj => by subst hT; rw [gI_sI, if_neg (by omega), gI_sI, if_neg (by omega), gI_sI, if_neg (by omega), wa 2 _ (by decide) (by decide), va 2 _ (by decide), ub j hj]
  have t4 : ∀ j, j < 8 → gI T 4 j = -1 := fun j hj => by subst hT; rw [gI_sI, if_neg (by omega), gI_sI, if_neg (by omega), gI_sI, if_neg (by omega), wa 4 _ (by decide) (by decide), vb j hj]
  have t13 : ∀ j, j < 4 → gI T 13 j = -5 := fun j hj => by subst hT; rw [gI_sI, if_neg (by omega), gI_sI, if_neg (by omega), gI_sI, if_neg (by omega), wb j hj]
  have tz : ∀ c j, 1 ≤ c → c ≠ 2 → c ≠ 4 → c ≠ 13 → c ≠ 16 → gI T c j = 0 := fun c j a b d e f => by rw [tc c j b d e f (by omega), hz c j a]
  have m1 : ((-1 : Int32)).toInt = -1 := by decide
  have cb0 : ∀ k, own_cb T k = 0 := fun k => by
    induction k with
    | zero => rfl
    | succ k ih => unfold own_cb; rw [ih, if_pos (tz 7 k (by decide) (by decide) (by decide) (by decide) (by decide))]
  have n4 : ∀ k : Nat, k < F.toInt.toNat → (gI T 4 k).toInt = -1 := fun k hk => by rw [t4 k (by omega), m1]
  refine h B.toInt.toNat F.toInt.toNat P.toInt.toNat T (by omega) (by omega) (by omega) ⟨⟨0, ⟨by rw [tc 0 14 (by decide) (by decide) (by decide) (by decide) (by decide), h14]; omega, by rw [tc 0 15 (by decide) (by decide) (by decide) (by decide) (by decide), h15]; omega, by rw [tc 0 16 (by decide) (by decide) (by decide) (by decide) (by decide), h16]; omega, by omega, by omega, by omega, by omega, by omega, by omega⟩, by rw [t30]; decide, (cb0 _).symm, fun i hi => absurd hi (by omega), fun i j hi => absurd hi (by omega), ⟨fun k hk => Or.inl (n4 k hk), fun k l hk hl _ k0 => absurd k0 (by rw [n4 k hk]; decide), fun k hk k0 => absurd k0 (by rw [n4 k hk]; decide)⟩, fun b b0 bB w hw => ⟨fun k hk e => absurd b0 (by rw [← e, n4 k hk]; decide), fun _ => tz 1 _ (by decide) (by decide) (by decide) (by decide) (by decide)⟩, fun b bB kn w hw => tz 1 _ (by decide) (by decide) (by decide) (by decide) (by decide)⟩, fun k hk => tz 8 k (by decide) (by decide) (by decide) (by decide) (by decide), fun k hk k0 => absurd k0 (by rw [n4 k hk]; decide)⟩ t2 t13 (fun j => tz 14 j (by decide) (by decide) (by decide) (by decide) (by decide)) (fun j => tz 15 j (by decide) (by decide) (by decide) (by decide) (by decide))
theorem own_know {B F P : Nat} {L : Nat → Nat → Int32} {s : St} {n : Nat} {b : Nat} (J : own_J B F P L s n) (h : b < B → ∀ w, w < 4 → gI s 1 (4 * b + w) = L b w) : own_J B F P L (sI s 2 b 1) n := by
  obtain ⟨⟨c14, c15, c16, cr⟩, hn, hc', hq, hd, hb, hA, hN⟩ := J
  have tc : ∀ c j, c ≠ 2 → gI (sI s 2 b 1) c j = gI s c j := fun c j a => by rw [gI_sI, if_neg (fun q => a q.1)]
  refine ⟨⟨by rw [tc 0 14 (by decide), c14], by rw [tc 0 15 (by decide), c15], by rw [tc 0 16 (by decide), c16], cr⟩, by rw [tc 0 30 (by decide), hn], by rw [hc']; exact (own_cb_eq (fun j _ => tc 7 j (by decide))).symm, fun i hi => ?_, fun i j hi hj e => ?_, ?_, ?_, fun b' bB kn w hw => ?_⟩
  · unfold own_q1; simp only [tc 4 _ (show (4 : Nat) ≠ 2 by decide), tc 5 _ (show (5 : Nat) ≠ 2 by decide), tc 7 _ (show (7 : Nat) ≠ 2 by decide), tc 10 _ (show (10 : Nat) ≠ 2 by decide), tc 11 _ (show (11 : Nat) ≠ 2 by decide), tc 12 _ (show (12 : Nat) ≠ 2 by decide)]; exact hq i hi
  · rw [tc 10 _ (by decide), tc 10 _ (by decide)] at e; exact hd i j hi hj e
  · unfold own_b; simp only [tc 1 _ (show (1 : Nat) ≠ 2 by decide), tc 3 _ (show (3 : Nat) ≠ 2 by decide), tc 4 _ (show (4 : Nat) ≠ 2 by decide), tc 5 _ (show (5 : Nat) ≠ 2 by decide), tc 6 _ (show (6 : Nat) ≠ 2 by decide)]; exact hb
  · unfold own_A; simp only [tc 1 _ (show (1 : Nat) ≠ 2 by decide), tc 3 _ (show (3 : Nat) ≠ 2 by decide), tc 4 _ (show (4 : Nat) ≠ 2 by decide), tc 5 _ (show (5 : Nat) ≠ 2 by decide)]; exact hA
  · rw [tc 1 _ (by decide)]
    by_cases z : b' = b
    · rw [z]; exact h (by omega) w hw
    · rw [gI_sI, if_neg (fun q => z q.2)] at kn; exact hN b' bB kn w hw

theorem own_26 (B F P : Nat) (L : Nat → Nat → Int32) (s : St) (b w : Int32) (O : own_O B F P L s) (yb : 0 ≤ b.toInt ∧ b.toInt < B) (yw : 0 ≤ w.toInt ∧ w.toInt < 4) (Q : Int32 → St → Prop) (h : Q (L (ix b) (ix w)) s) : calI PP 26 16 [.ref 0, .int b, .int w] s Q := by
  obtain ⟨⟨n, J⟩, o8, ov⟩ := O
  obtain ⟨c14, c15, c16, B8, B32, F2, F8, P1, P4⟩ := J.1
  have xb := ix_int yb.1
  have xw := ix_int yw.1
  have A := J.2.2.2.2.2.2.1 b yb.1 yb.2 (ix w) (by omega)
  apply c26_in
  refine own_31 F s b c15 F8 _ (fun k k0 k1 e4 => ?_) (fun nf => ?_)
  · have xk := ix_int k0
    have v := ov (ix k) (by omega) (by rw [e4]; exact yb.1)
    obtain ⟨f1, f2⟩ := own_x4 (k := k) (w := w) (N := 32) (by omega) (by decide) yw
    refine ⟨fun q => absurd q (by rw [i32_lt]; simp; omega), fun _ => ⟨⟨k0, by show _ < (8 : Int); omega⟩, fun q => absurd q v, fun _ => ⟨⟨by omega, by show _ < (32 : Int); omega⟩, ?_⟩⟩⟩
    rw [f2, A.1 (ix k) (by omega) e4 v]; exact h
  · obtain ⟨f1, f2⟩ := own_x4 (k := b) (w := w) (N := 32) (by omega) (by decide) yw
    refine ⟨fun _ => c26_30 _ _ _ _ ⟨⟨by omega, by show _ < (128 : Int); omega⟩, ?_⟩, fun q => absurd (by decide) q⟩
    rw [f2, A.2 (fun k hk e => absurd e (nf k hk))]; exact h
/-- blockSum -/
theorem own_14 (B F P : Nat) (L : Nat → Nat → Int32) (s : St) (b : Int32) (O : own_O B F P L s) (Q : Int32 → St → Prop) (h : Q (if 0 ≤ b.toInt ∧ b.toInt < B then L (ix b) 0 + L (ix b) 1 + L (ix b) 2 + L (ix b) 3 else -3) s) : calI PP 14 16 [.ref 0, .int b] s Q := by
  have c14 := O.1.choose_spec.1.1
  apply c14_in
  refine own_bb B s b c14 _ ?_
  by_cases yb : 0 ≤ b.toInt ∧ b.toInt < B
  rotate_left
  · rw [if_neg yb] at h ⊢; exact ⟨fun q => absurd q (by decide), fun _ => h⟩
  rw [if_pos yb] at h ⊢
  refine ⟨fun _ => ?_, fun q => absurd rfl q⟩
  have st : ∀ (x w : Int32), (0 ≤ w.toInt ∧ w.toInt < 4) → wpcI PP 14 cm14 16 15 [some (.ref 0), some (.int b), some (.int (x + L (ix b) (ix w))), some (.int (w + 1))] [] s Q → wpcI PP 14 cm14 16 15 [some (.ref 0), some (.int b), some (.int x), some (.int w)] [] s Q := by
    intro x w yw hq
    exact c14_15 _ _ _ _ _ ⟨fun _ => own_26 B F P L s b w O yb yw _ hq, fun q => absurd (by rw [i32_lt]; simp; omega) q⟩
  refine st 0 0 (by decide) (st _ (0 + 1) (by decide) (st _ (0 + 1 + 1) (by decide) (st _ (0 + 1 + 1 + 1) (by decide) (c14_15 _ _ _ _ _ ⟨fun q => absurd q (by decide), fun _ => ?_⟩))))
  have z : (0 : Int32) + L (ix b) (ix 0) = L (ix b) 0 := by simp [ix]
  have z1 : ix ((0 : Int32) + 1) = 1 := by decide
  have z2 : ix ((0 : Int32) + 1 + 1) = 2 := by decide
  have z3 : ix ((0 : Int32) + 1 + 1 + 1) = 3 := by decide
  rw [z, z1, z2, z3]; exact h

theorem own_25 (F : Nat) (s : St) (k b w v : Int32) (hF : (gI s 0 15).toInt = F) (h8 : F ≤ 8) (hk : 0 ≤ k.toInt ∧ k.toInt < F) (hw : 0 ≤ w.toInt ∧ w.toInt < 4) (Q : St → Prop) (h : Q (sI s 3 (4 * ix k + ix w) v)) : calV PP 25 16 [.ref 0, .int k, .int b, .int w, .int v] s Q := by
  obtain ⟨f1, f2⟩ := own_x4 (k := k) (w := w) (N := 32) (by omega) (by decide) hw
  apply c25_in
  refine own_22 F s k hF hk _ ⟨fun q => absurd q (by decide), fun _ => ⟨⟨by omega, by show _ < (32 : Int); omega⟩, ?_⟩⟩
  rw [f2]; exact h
theorem own_28 (F : Nat) (s : St) (k : Int32) (hF : (gI s 0 15).toInt = F) (h8 : F ≤ 8) (hk : 0 ≤ k.toInt ∧ k.toInt < F) (Q : St → Prop) (h : Q (sI (sI s 5 (ix k) 1) 6 (ix k) 1)) : calV PP 28 16 [.ref 0, .int k] s Q := by
  have kb : inb 8 k := ⟨hk.1, by show _ < (8 : Int); omega⟩
  apply c28_in
  exact own_22 F s k hF hk _ ⟨fun q => absurd q (by decide), fun _ => ⟨kb, kb, h⟩⟩
theorem own_24 (F : Nat) (s : St) (k b w : Int32) (hF : (gI s 0 15).toInt = F) (h8 : F ≤ 8) (hk : 0 ≤ k.toInt ∧ k.toInt < F) (hw : 0 ≤ w.toInt ∧ w.toInt < 4) (hv : gI s 5 (ix k) ≠ 0) (Q : Int32 → St → Prop) (h : Q (gI s 3 (4 * ix k + ix w)) s) : calI PP 24 16 [.ref 0, .int k, .int b, .int w] s Q := by
  obtain ⟨f1, f2⟩ := own_x4 (k := k) (w := w) (N := 32) (by omega) (by decide) hw
  apply c24_in
  refine own_22 F s k hF hk _ ⟨fun q => absurd q (by decide), fun _ => ⟨⟨hk.1, by show _ < (8 : Int); omega⟩, fun q => absurd q hv, fun _ => ⟨⟨by omega, by show _ < (32 : Int); omega⟩, ?_⟩⟩⟩
  rw [f2]; exact h
/-- read -/
theorem own_5 (B F P : Nat) (L : Nat → Nat → Int32) (s : St) (p b w : Int32) (O : own_O B F P L s) (Q : Int32 → St → Prop)
    (hp : ¬ (0 ≤ p.toInt ∧ p.toInt < P) → Q (-2) s) (hb : (0 ≤ p.toInt ∧ p.toInt < P) → ¬ (0 ≤ b.toInt ∧ b.toInt < B) → Q (-3) s) (hw : (0 ≤ p.toInt ∧ p.toInt < P) → (0 ≤ b.toInt ∧ b.toInt < B) → ¬ (0 ≤ w.toInt ∧ w.toInt < 4) → Q (-4) s)
    (h : (0 ≤ p.toInt ∧ p.toInt < P) → (0 ≤ b.toInt ∧ b.toInt < B) → (0 ≤ w.toInt ∧ w.toInt < 4) → ∀ t, own_O B F P L t → (∀ j, gI t 13 j = if j = ix p then L (ix b) (ix w) else gI s 13 j) → (∀ j, gI t 14 j = if j = ix p then gI s 14 (ix p) + 1 else gI s 14 j) → (∀ c j, c = 2 ∨ c = 15 → gI t c j = gI s c j) → Q (L (ix b) (ix w)) t) : calI PP 5 16 [.ref 0, .int p, .int b, .int w] s Q := by
  obtain ⟨⟨n, J⟩, o8, ov⟩ := O
  obtain ⟨c14, c15, c16, B8, B32, F2, F8, P1, P4⟩ := J.1
  apply c5_in
  refine own_bp P s p c16 _ ?_
  by_cases yp : 0 ≤ p.toInt ∧ p.toInt < P
  rotate_left
  · rw [if_neg yp]; exact ⟨fun q => absurd q (by decide), fun _ => hp yp⟩
  rw [if_pos yp]
  refine ⟨fun _ => own_bb B s b c14 _ ?_, fun q => absurd rfl q⟩
  by_cases yb : 0 ≤ b.toInt ∧ b.toInt < B
  rotate_left
  · rw [if_neg yb]; exact ⟨fun q => absurd q (by decide), fun _ => hb yp yb⟩
  rw [if_pos yb]
  refine ⟨fun _ => own_bw s w _ ?_, fun q => absurd rfl q⟩
  by_cases yw : 0 ≤ w.toInt ∧ w.toInt < 4
  rotate_left
  · rw [if_neg yw]; exact ⟨fun q => absurd q (by decide), fun _ => hw yp yb yw⟩
  rw [if_pos yw]
  refine ⟨fun _ => ?_, fun q => absurd rfl q⟩
  refine own_32 B F P L s n p b 1 J ⟨0, by omega, o8 0 (by omega)⟩ (fun k hk q => absurd (o8 k hk) q) ov yb _ fun t m k Jt hk e4 e7 s8 t8 t4 tv tr tc => ?_
  have t15 : (gI t 0 15).toInt = F := Jt.1.2.1
  have xk := ix_int hk.1
  have xb := ix_int yb.1
  have xw := ix_int yw.1
  have xp := ix_int yp.1
  have val := (Jt.2.2.2.2.2.2.1 b yb.1 yb.2 (ix w) (by omega)).1 (ix k) (by omega) e4 (tr (by decide))
  refine own_24 F t k b w t15 F8 hk yw (tr (by decide)) _ ?_
  rw [val]
  refine own_29 F t k t15 F8 hk _ ?_
  have pb : inb 4 p := ⟨yp.1, by show _ < (4 : Int); omega⟩
  refine ⟨pb, pb, pb, ?_⟩
  generalize hU : sI t 8 (ix k) 0 = U
  have uc : ∀ c j, c ≠ 8 → gI U c j = gI t c j := fun c j a => by subst hU; rw [gI_sI, if_neg (fun q => a q.1)]
  have u8 : ∀ l, gI U 8 l = if l = ix k then 0 else gI s 8 l := fun l => by
    subst hU; rw [gI_sI]
    by_cases z : l = ix k
    · rw [if_pos ⟨rfl, z⟩, if_pos z]
    · rw [if_neg (fun q => z q.2), if_neg z, t8, if_neg z]
  clear hU
  have U14 : gI U 14 (ix p) = gI s 14 (ix p) := by rw [uc 14 _ (by decide), tc 14 _ (by omega)]
  rw [U14]
  generalize hV : sI (sI U 13 (ix p) (L (ix b) (ix w))) 14 (ix p) (gI s 14 (ix p) + 1) = V
  have vc : ∀ c j, c ≠ 13 → c ≠ 14 → gI V c j = gI U c j := fun c j a b => by subst hV; rw [gI_sI, if_neg (fun q => b q.1), gI_sI, if_neg (fun q => a q.1)]
  have v13 : ∀ j, gI V 13 j = if j = ix p then L (ix b) (ix w) else gI s 13 j := fun j => by
    subst hV; rw [gI_sI, if_neg (by omega), gI_sI, uc 13 _ (by decide), tc 13 _ (by omega)]; simp
  have v14 : ∀ j, gI V 14 j = if j = ix p then gI s 14 (ix p) + 1 else gI s 14 j := fun j => by
    subst hV; rw [gI_sI, gI_sI, if_neg (show ¬ (14 = 13 ∧ j = ix p) by omega), uc 14 _ (by decide), tc 14 _ (by omega)]; simp
  clear hV
  refine h yp yb yw V ⟨⟨m, own_J_fr Jt fun c j hc => by rw [vc c j (by omega) (by omega), uc c j (by omega)]⟩, fun l hl => ?_, fun l hl l0 => ?_⟩ v13 v14 (fun c j hc => by rw [vc c j (by omega) (by omega), uc c j (by omega), tc c j (by omega)])
  · rw [vc 8 _ (by decide) (by decide), u8]; split
    · rfl
    · exact o8 l hl
  · rw [vc 4 _ (by decide) (by decide), uc 4 _ (by decide)] at l0
    rw [vc 5 _ (by decide) (by decide), uc 5 _ (by decide)]
    by_cases z : l = ix k
    · rw [z]; exact tr (by decide)
    · exact tv l hl z l0
def own_fl (L : Nat → Nat → Int32) (b : Nat) (f : Nat → Int32) : Nat → Nat → Int32 := fun b' w' => if b' = b then f w' else L b' w'
/-- a held buffer, got for the block b, its four words stored, marked full and let go -/
theorem own_full (B F P : Nat) (L : Nat → Nat → Int32) (t u : St) (m : Nat) (k b : Int32) (f : Nat → Int32) (J : own_J B F P L t m) (hk : 0 ≤ k.toInt ∧ k.toInt < F) (hb : 0 ≤ b.toInt ∧ b.toInt < B) (e4 : gI t 4 (ix k) = b) (e7 : gI t 7 (ix k) = 0)
    (u3 : ∀ w, w < 4 → gI u 3 (4 * ix k + w) = f w) (u3' : ∀ j, j < 4 * ix k ∨ 4 * ix k + 4 ≤ j → gI u 3 j = gI t 3 j) (u5 : ∀ l, gI u 5 l = if l = ix k then 1 else gI t 5 l) (u6 : ∀ l, gI u 6 l = if l = ix k then 1 else gI t 6 l) (u2 : ∀ j, gI u 2 j = if j = ix b then 0 else gI t 2 j) (uc : ∀ c j, (c = 1 ∨ c = 4 ∨ c = 7 ∨ 10 ≤ c ∧ c ≤ 12 ∨ (c = 0 ∧ j ≠ 26 ∧ j ≠ 31)) → gI u c j = gI t c j) : own_J B F P (own_fl L (ix b) f) u m := by
  refine own_put B F P L _ t u m k b J hk hb e4 e7 (fun b' hb' w' => ?_) (fun w' hw' => ?_) u3' ?_ (fun l hl => ?_) ?_ (fun l hl => ?_) ?_ (fun j hj => ?_) uc
  · unfold own_fl; rw [if_neg hb']
  · unfold own_fl; rw [if_pos rfl, u3 w' hw']
  · rw [u5, if_pos rfl]; decide
  · rw [u5, if_neg hl]
  · rw [u6, if_pos rfl]; decide
  · rw [u6, if_neg hl]
  · rw [u2, if_pos rfl]
  · rw [u2, if_neg hj]
/-- fill -/
theorem own_7 (B F P : Nat) (L : Nat → Nat → Int32) (s : St) (p b v : Int32) (O : own_O B F P L s) (Q : Int32 → St → Prop)
    (hp : ¬ (0 ≤ p.toInt ∧ p.toInt < P) → Q (-2) s) (hb : (0 ≤ p.toInt ∧ p.toInt < P) → ¬ (0 ≤ b.toInt ∧ b.toInt < B) → Q (-3) s)
    (h : (0 ≤ p.toInt ∧ p.toInt < P) → (0 ≤ b.toInt ∧ b.toInt < B) → ∀ t, own_O B F P (own_fl L (ix b) fun _ => v &&& 65535) t → (∀ j, gI t 2 j = if j = ix b then 0 else gI s 2 j) → (∀ j, gI t 15 j = if j = ix p then gI s 15 (ix p) + 1 else gI s 15 j) → (∀ c j, c = 13 ∨ c = 14 → gI t c j = gI s c j) → Q 0 t) : calI PP 7 16 [.ref 0, .int p, .int b, .int v] s Q := by
  obtain ⟨⟨n, J⟩, o8, ov⟩ := O
  obtain ⟨c14, c15, c16, B8, B32, F2, F8, P1, P4⟩ := J.1
  apply c7_in
  refine own_bp P s p c16 _ ?_
  by_cases yp : 0 ≤ p.toInt ∧ p.toInt < P
  rotate_left
  · rw [if_neg yp]; exact ⟨fun q => absurd q (by decide), fun _ => hp yp⟩
  rw [if_pos yp]
  refine ⟨fun _ => own_bb B s b c14 _ ?_, fun q => absurd rfl q⟩
  by_cases yb : 0 ≤ b.toInt ∧ b.toInt < B
  rotate_left
  · rw [if_neg yb]; exact ⟨fun q => absurd q (by decide), fun _ => hb yp yb⟩
  rw [if_pos yb]
  refine ⟨fun _ => ?_, fun q => absurd rfl q⟩
  refine own_32 B F P L s n p b 0 J ⟨0, by omega, o8 0 (by omega)⟩ (fun k hk q => absurd (o8 k hk) q) ov yb _ fun t m k Jt hk e4 e7 s8 t8 t4 tv tr tc => ?_
  have t15 : (gI t 0 15).toInt = F := Jt.1.2.1
  have xk := ix_int hk.1
  have xb := ix_int yb.1
  have xp := ix_int yp.1
  have pb : inb 4 p := ⟨yp.1, by show _ < (4 : Int); omega⟩
  refine loop_up (F := fun x => ∀ u, (∀ c j, c ≠ 3 → gI u c j = gI t c j) → (∀ w, w < ix x → gI u 3 (4 * ix k + w) = v &&& 65535) → (∀ j, j < 4 * ix k ∨ 4 * ix k + 4 ≤ j → gI u 3 j = gI t 3 j) → wpcI PP 7 cm7 16 40 [some (.ref 0), some (.int p), some (.int b), none, some (.int (v &&& 65535)), some (.int k), some (.int x)] [] u Q) 4 (by decide) (fun x x0 x1 e ih u ua ub ud => ?_) (fun x hx u ua ub ud => ?_) 0 (by decide) (by decide) t (fun _ _ _ => rfl) (fun w hw => absurd hw (by simp [ix])) (fun _ _ => rfl)
  · have xx := ix_int x0
    have xy := ix_int (i := x + 1) (by omega)
    refine c7_40 _ _ _ _ _ _ _ ⟨fun _ => own_25 F u k b x _ (by rw [ua 0 _ (by decide), t15]) F8 hk ⟨x0, x1⟩ _ (ih _ (fun c j a => by rw [gI_sI, if_neg (fun q => a q.1), ua c j a]) (fun w hw => ?_) (fun j hj => ?_)), fun q => absurd (by rw [i32_lt]; exact x1) q⟩
    · rw [gI_sI]
      by_cases z : w = ix x
      · rw [if_pos ⟨rfl, by rw [z]⟩]
      · rw [if_neg (by omega)]; exact ub w (by omega)
    · rw [gI_sI, if_neg (by omega)]; exact ud j hj
  · have xx := ix_int (i := x) (by omega)
    refine c7_40 _ _ _ _ _ _ _ ⟨fun q => absurd q (by rw [i32_lt, hx]; decide), fun _ => ?_⟩
    refine own_28 F u k (by rw [ua 0 _ (by decide), t15]) F8 hk _ ?_
    refine own_29 F _ k (by rw [gI_sI, if_neg (by omega), gI_sI, if_neg (by omega), ua 0 _ (by decide), t15]) F8 hk _ ?_
    refine ⟨⟨yb.1, by show _ < (32 : Int); omega⟩, pb, pb, ?_⟩
    generalize hV : sI (sI (sI u 5 (ix k) 1) 6 (ix k) 1) 8 (ix k) 0 = V
    have vc : ∀ c j, c ≠ 5 → c ≠ 6 → c ≠ 8 → gI V c j = gI u c j := fun c j a b d => by subst hV; rw [gI_sI, if_neg (by omega), gI_sI, if_neg (by omega), gI_sI, if_neg (by omega)]
    have v5 : ∀ l, gI V 5 l = if l = ix k then 1 else gI t 5 l := fun l => by subst hV; rw [gI_sI, if_neg (by omega), gI_sI, if_neg (by omega), gI_sI, ua 5 _ (by decide)]; simp
    have v6 : ∀ l, gI V 6 l = if l = ix k then 1 else gI t 6 l := fun l => by subst hV; rw [gI_sI, if_neg (by omega), gI_sI, gI_sI, if_neg (show ¬ (6 = 5 ∧ l = ix k) by omega), ua 6 _ (by decide)]; simp
    have v8 : ∀ l, gI V 8 l = if l = ix k then 0 else gI s 8 l := fun l => by
      subst hV; rw [gI_sI, gI_sI, if_neg (show ¬ (8 = 6 ∧ l = ix k) by omega), gI_sI, if_neg (show ¬ (8 = 5 ∧ l = ix k) by omega), ua 8 _ (by decide), t8]
      by_cases z : l = ix k <;> simp [z]
    clear hV
    have V15 : gI V 15 (ix p) = gI s 15 (ix p) := by rw [vc 15 _ (by decide) (by decide) (by decide), ua 15 _ (by decide), tc 15 _ (by omega)]
    rw [V15]
    generalize hW : sI (sI V 2 (ix b) 0) 15 (ix p) (gI s 15 (ix p) + 1) = W
    have wc : ∀ c j, c ≠ 2 → c ≠ 15 → gI W c j = gI V c j := fun c j a b => by subst hW; rw [gI_sI, if_neg (by omega), gI_sI, if_neg (by omega)]
    have w2 : ∀ j, gI W 2 j = if j = ix b then 0 else gI s 2 j := fun j => by subst hW; rw [gI_sI, if_neg (by omega), gI_sI, vc 2 _ (by decide) (by decide) (by decide), ua 2 _ (by decide), tc 2 _ (by omega)]; simp
    have w15 : ∀ j, gI W 15 j = if j = ix p then gI s 15 (ix p) + 1 else gI s 15 j := fun j => by subst hW; rw [gI_sI, gI_sI, if_neg (show ¬ (15 = 2 ∧ j = ix b) by omega), vc 15 _ (by decide) (by decide) (by decide), ua 15 _ (by decide), tc 15 _ (by omega)]; simp
    clear hW
    refine h yp yb W ⟨⟨m, own_full B F P L t W m k b _ Jt hk yb e4 e7 (fun w hw => ?_) (fun j hj => ?_) (fun l => ?_) (fun l => ?_) (fun j => ?_) (fun c j hc => by rw [wc c j (by omega) (by omega), vc c j (by omega) (by omega) (by omega), ua c j (by omega)])⟩, fun l hl => ?_, fun l hl l0 => ?_⟩ w2 w15 (fun c j hc => by rw [wc c j (by omega) (by omega), vc c j (by omega) (by omega) (by omega), ua c j (by omega), tc c j (by omega)])
    · rw [wc 3 _ (by decide) (by decide), vc 3 _ (by decide) (by decide) (by decide), ub w (by omega)]
    · rw [wc 3 _ (by decide) (by decide), vc 3 _ (by decide) (by decide) (by decide), ud j hj]
    · rw [wc 5 _ (by decide) (by decide), v5]
    · rw [wc 6 _ (by decide) (by decide), v6]
    · rw [w2, tc 2 _ (by omega)]
    · rw [wc 8 _ (by decide) (by decide), v8]; split
      · rfl
      · exact o8 l hl
    · rw [wc 4 _ (by decide) (by decide), vc 4 _ (by decide) (by decide) (by decide), ua 4 _ (by decide)] at l0
      rw [wc 5 _ (by decide) (by decide), v5]
      by_cases z : l = ix k
      · rw [if_pos z]; decide
      · rw [if_neg z]; exact tv l hl z l0
/-- interrupts in a row -/
theorem own_9 (B F P : Nat) (L : Nat → Nat → Int32) (s : St) (x : Int32) (O : own_O B F P L s) (Q : St → Prop) (h : ∀ t, own_O B F P L t → (∀ c j, c = 2 ∨ c = 13 ∨ c = 14 ∨ c = 15 → gI t c j = gI s c j) → Q t) : calV PP 9 16 [.ref 0, .int x] s Q := by
  obtain ⟨⟨n, J⟩, o8, ov⟩ := O
  apply c9_in
  apply own_clamp
  generalize em : (if x < 0 then (0 : Int32) else if 64 < x then 64 else x) = m
  have r := own_cl_rng (by decide) em.symm
  simp at r
  have fin : ∀ u n', own_J B F P L u n' → own_T s u → Q u := fun u n' Ju Tu => h u ⟨⟨n', Ju⟩, fun k hk => by rw [Tu.1 8 k (by omega), o8 k hk], fun k hk k0 => (Tu.2 k).1 (ov k hk (by rw [← Tu.1 4 k (by omega)]; exact k0))⟩ fun c j hc => Tu.1 c j (by omega)
  refine loop_up (F := fun i => ∀ u n', own_J B F P L u n' → own_T s u → wpcV PP 9 cm9 16 11 [some (.ref 0), none, some (.int m), some (.int i)] [] u Q) m.toInt (by omega) (fun i i0 i1 e ih u n' Ju Tu => ?_) (fun i hi u n' Ju Tu => ?_) 0 (by decide) (by simp; omega) s n J (own_T_rfl s)
  · refine c9_11 _ _ _ _ ⟨fun _ => ?_, fun q => absurd (by rw [i32_lt]; exact i1) q⟩
    exact own_40 B F P L u n' Ju _ (fun _ => ⟨fun _ => fin u n' Ju Tu, fun q => absurd rfl q⟩) fun t k _ _ Jt St a1 a2 a3 a4 a5 => ⟨fun q => absurd q (by decide), fun _ => ih t _ Jt (own_T_tr Tu (own_40T St a1 a2 a3 a4 a5))⟩
  · exact c9_11 _ _ _ _ ⟨fun q => absurd q (by rw [i32_lt]; omega), fun _ => fin u n' Ju Tu⟩
/-- copyBlock -/
theorem own_8 (B F P : Nat) (L : Nat → Nat → Int32) (s : St) (p a b : Int32) (O : own_O B F P L s) (Q : Int32 → St → Prop)
    (hp : ¬ (0 ≤ p.toInt ∧ p.toInt < P) → Q (-2) s) (ha : (0 ≤ p.toInt ∧ p.toInt < P) → ¬ (0 ≤ a.toInt ∧ a.toInt < B) → Q (-3) s) (hb : (0 ≤ p.toInt ∧ p.toInt < P) → (0 ≤ a.toInt ∧ a.toInt < B) → ¬ (0 ≤ b.toInt ∧ b.toInt < B) → Q (-3) s)
    (h : (0 ≤ p.toInt ∧ p.toInt < P) → (0 ≤ a.toInt ∧ a.toInt < B) → (0 ≤ b.toInt ∧ b.toInt < B) → ∀ t, own_O B F P (own_fl L (ix b) (L (ix a))) t → (∀ j, gI t 2 j = if j = ix b then 0 else gI s 2 j) → (∀ j, gI t 14 j = if j = ix p then gI s 14 (ix p) + 1 else gI s 14 j) → (∀ j, gI t 15 j = if j = ix p then gI s 15 (ix p) + 1 else gI s 15 j) → (∀ j, gI t 13 j = gI s 13 j) → Q 0 t) : calI PP 8 16 [.ref 0, .int p, .int a, .int b] s Q := by
  obtain ⟨⟨n, J⟩, o8, ov⟩ := O
  obtain ⟨c14, c15, c16, B8, B32, F2, F8, P1, P4⟩ := J.1
  apply c8_in
  refine own_bp P s p c16 _ ?_
  by_cases yp : 0 ≤ p.toInt ∧ p.toInt < P
  rotate_left
  · rw [if_neg yp]; exact ⟨fun q => absurd q (by decide), fun _ => hp yp⟩
  rw [if_pos yp]
  refine ⟨fun _ => own_bb B s a c14 _ ?_, fun q => absurd rfl q⟩
  by_cases ya : 0 ≤ a.toInt ∧ a.toInt < B
  rotate_left
  · rw [if_neg ya]; exact ⟨fun q => absurd q (by decide), fun _ => ha yp ya⟩
  rw [if_pos ya]
  refine ⟨fun _ => own_bb B s b c14 _ ?_, fun q => absurd rfl q⟩
  by_cases yb : 0 ≤ b.toInt ∧ b.toInt < B
  rotate_left
  · rw [if_neg yb]; exact ⟨fun q => absurd q (by decide), fun _ => hb yp ya yb⟩
  rw [if_pos yb]
  refine ⟨fun _ => ?_, fun q => absurd rfl q⟩
  have xa := ix_int ya.1
  have xb := ix_int yb.1
  have xp := ix_int yp.1
  have pb : inb 4 p := ⟨yp.1, by show _ < (4 : Int); omega⟩
  -- the end, from the state V before the marks of the call
  have fin : ∀ (V t : St) (m : Nat) (k : Int32), own_J B F P L t m → (0 ≤ k.toInt ∧ k.toInt < F) → gI t 4 (ix k) = b → gI t 7 (ix k) = 0 → (∀ w, w < 4 → gI V 3 (4 * ix k + w) = L (ix a) w) → (∀ j, j < 4 * ix k ∨ 4 * ix k + 4 ≤ j → gI V 3 j = gI t 3 j) → gI V 5 (ix k) ≠ 0 → (∀ l, l ≠ ix k → gI V 5 l = gI t 5 l) → gI V 6 (ix k) ≠ 0 → (∀ l, l ≠ ix k → gI V 6 l = gI t 6 l) → (∀ c j, (c = 1 ∨ c = 4 ∨ c = 7 ∨ 10 ≤ c ∧ c ≤ 12 ∨ (c = 0 ∧ j ≠ 26 ∧ j ≠ 31)) → gI V c j = gI t c j) → (∀ l, l < F → gI V 8 l = 0) → (∀ l, l < F → l ≠ ix k → 0 ≤ (gI t 4 l).toInt → gI t 5 l ≠ 0) → (∀ c j, (c = 2 ∨ c = 13 ∨ c = 14 ∨ c = 15) → gI V c j = gI s c j ∧ gI t c j = gI s c j) → wpcI PP 8 cm8 16 71 [some (.ref 0), some (.int p), none, some (.int b), none] [] V Q := by
    intro V t m k Jt hk e4 e7 v3 v3' v5 v5' v6 v6' vc v8 tv vs
    refine c8_71 _ _ _ _ ⟨⟨yb.1, by show _ < (32 : Int); omega⟩, pb, pb, pb, pb, ?_⟩
    rw [(vs 14 (ix p) (by omega)).1, (vs 15 (ix p) (by omega)).1]
    generalize hW : sI (sI (sI V 2 (ix b) 0) 14 (ix p) (gI s 14 (ix p) + 1)) 15 (ix p) (gI s 15 (ix p) + 1) = W
    have wc : ∀ c j, c ≠ 2 → c ≠ 14 → c ≠ 15 → gI W c j = gI V c j := fun c j a b d => by subst hW; rw [gI_sI, if_neg (by omega), gI_sI, if_neg (by omega), gI_sI, if_neg (by omega)]
    have w2 : ∀ j, gI W 2 j = if j = ix b then 0 else gI s 2 j := fun j => by subst hW; rw [gI_sI, if_neg (by omega), gI_sI, if_neg (by omega), gI_sI, (vs 2 j (by omega)).1]; simp
    have w14 : ∀ j, gI W 14 j = if j = ix p then gI s 14 (ix p) + 1 else gI s 14 j := fun j => by subst hW; rw [gI_sI, if_neg (by omega), gI_sI, gI_sI, if_neg (show ¬ (14 = 2 ∧ j = ix b) by omega), (vs 14 j (by omega)).1]; simp
    have w15 : ∀ j, gI W 15 j = if j = ix p then gI s 15 (ix p) + 1 else gI s 15 j := fun j => by subst hW; rw [gI_sI, gI_sI, if_neg (show ¬ (15 = 14 ∧ j = ix p) by omega), gI_sI, if_neg (show ¬ (15 = 2 ∧ j = ix b) by omega), (vs 15 j (by omega)).1]; simp
    clear hW
    refine h yp ya yb W ⟨⟨m, own_put B F P L _ t W m k b Jt hk yb e4 e7 (fun b' hb' w' => ?_) (fun w hw => ?_) (fun j hj => ?_) ?_ (fun l hl => ?_) ?_ (fun l hl => ?_) ?_ (fun j hj => ?_) (fun c j hc => by rw [wc c j (by omega) (by omega) (by omega), vc c j hc])⟩, fun l hl => ?_, fun l hl l0 => ?_⟩ w2 w14 w15 (fun j => by rw [wc 13 _ (by decide) (by decide) (by decide), (vs 13 j (by omega)).1])
    · unfold own_fl; rw [if_neg hb']
    · unfold own_fl; rw [if_pos rfl, wc 3 _ (by decide) (by decide) (by decide), v3 w hw]
    · rw [wc 3 _ (by decide) (by decide) (by decide), v3' j hj]
    · rw [wc 5 _ (by decide) (by decide) (by decide)]; exact v5
    · rw [wc 5 _ (by decide) (by decide) (by decide), v5' l hl]
    · rw [wc 6 _ (by decide) (by decide) (by decide)]; exact v6
    · rw [wc 6 _ (by decide) (by decide) (by decide), v6' l hl]
    · rw [w2, if_pos rfl]
    · rw [w2, if_neg hj, (vs 2 j (by omega)).2]
    · rw [wc 8 _ (by decide) (by decide) (by decide), v8 l hl]
    · rw [wc 4 _ (by decide) (by decide) (by decide), vc 4 _ (by omega)] at l0
      rw [wc 5 _ (by decide) (by decide) (by decide)]
      by_cases z : l = ix k
      · rw [z]; exact v5
      · rw [v5' l z]; exact tv l hl z l0
  refine own_32 B F P L s n p a 1 J ⟨0, by omega, o8 0 (by omega)⟩ (fun k hk q => absurd (o8 k hk) q) ov ya _ fun t m k Jt hk e4 e7 s8 t8 t4 tv tr tc => ?_
  have t15 : (gI t 0 15).toInt = F := Jt.1.2.1
  have xk := ix_int hk.1
  have kb : inb 8 k := ⟨hk.1, by show _ < (8 : Int); omega⟩
  have k5 := tr (by decide)
  have val : ∀ w, w < 4 → gI t 3 (4 * ix k + w) = L (ix a) w := fun w hw => (Jt.2.2.2.2.2.2.1 a ya.1 ya.2 w hw).1 (ix k) (by omega) e4 k5
  refine ⟨fun eab => ?_, fun nab => ?_⟩
  · subst eab
    apply c27_in
    refine own_22 F t k t15 hk _ ⟨fun q => absurd q (by decide), fun _ => ⟨kb, ?_⟩⟩
    refine own_29 F _ k (by rw [gI_sI, if_neg (by omega), t15]) F8 hk _ ?_
    generalize hV : sI (sI t 6 (ix k) 1) 8 (ix k) 0 = V
    have vc : ∀ c j, c ≠ 6 → c ≠ 8 → gI V c j = gI t c j := fun c j a b => by subst hV; rw [gI_sI, if_neg (by omega), gI_sI, if_neg (by omega)]
    have v6 : ∀ l, gI V 6 l = if l = ix k then 1 else gI t 6 l := fun l => by subst hV; rw [gI_sI, if_neg (by omega), gI_sI]; simp
    have v8 : ∀ l, gI V 8 l = if l = ix k then 0 else gI t 8 l := fun l => by subst hV; rw [gI_sI, gI_sI, if_neg (show ¬ (8 = 6 ∧ l = ix k) by omega)]; simp
    clear hV
    refine fin V t m k Jt hk e4 e7 (fun w hw => ?_) (fun j hj => vc 3 j (by decide) (by decide)) ?_ (fun l hl => vc 5 l (by decide) (by decide)) ?_ (fun l hl => ?_) (fun c j hc => vc c j (by omega) (by omega)) (fun l hl => ?_) tv (fun c j hc => ⟨by rw [vc c j (by omega) (by omega), tc c j hc], tc c j hc⟩)
    · rw [vc 3 _ (by decide) (by decide), val w hw]
    · rw [vc 5 _ (by decide) (by decide)]; exact k5
    · rw [v6, if_pos rfl]; decide
    · rw [v6, if_neg hl]
    · rw [v8, t8]
      by_cases z : l = ix k
      · rw [if_pos z]
      · rw [if_neg z, if_neg z, o8 l hl]
  · apply c23_in
    have x1 : ix (1 : Int32) = 1 := by decide
    have x2 : ix (2 : Int32) = 2 := by decide
    have x3 : ix (3 : Int32) = 3 := by decide
    have x0 : ix (0 : Int32) = 0 := by decide
    refine own_24 F t k a 0 t15 F8 hk (by decide) k5 _ (own_24 F t k a 1 t15 F8 hk (by decide) k5 _ (own_24 F t k a 2 t15 F8 hk (by decide) k5 _ (own_24 F t k a 3 t15 F8 hk (by decide) k5 _ ?_)))
    rw [x0, x1, x2, x3, val 0 (by decide), val 1 (by decide), val 2 (by decide), val 3 (by decide)]
    have free : ∃ l, l < F ∧ gI t 8 l = 0 := by
      by_cases z : ix k = 0
      · exact ⟨1, by omega, by rw [t8, if_neg (by omega), o8 1 (by omega)]⟩
      · exact ⟨0, by omega, by rw [t8, if_neg (by omega), o8 0 (by omega)]⟩
    refine own_32 B F P L t m p b 0 Jt free (fun l hl q => ?_) (fun l hl l0 => ?_) yb _ fun u m' l Ju hl f4 f7 t8l u8 u4 uv ur uc => ?_
    · have z : l = ix k := Classical.byContradiction fun z => q (by rw [t8, if_neg z, o8 l hl])
      rw [z, e4]; exact ⟨e7, nab⟩
    · by_cases z : l = ix k
      · rw [z]; exact k5
      · exact tv l hl z l0
    have xl := ix_int hl.1
    have lk : ix l ≠ ix k := fun z => by rw [z, t8, if_pos rfl] at t8l; exact absurd t8l (by decide)
    have u15 : (gI u 0 15).toInt = F := Ju.1.2.1
    refine own_25 F u l b 0 _ u15 F8 hl (by decide) _ ?_
    refine own_25 F _ l b 1 _ (by rw [gI_sI, if_neg (by omega), u15]) F8 hl (by decide) _ ?_
    refine own_25 F _ l b 2 _ (by rw [gI_sI, if_neg (by omega), gI_sI, if_neg (by omega), u15]) F8 hl (by decide) _ ?_
    refine own_25 F _ l b 3 _ (by rw [gI_sI, if_neg (by omega), gI_sI, if_neg (by omega), gI_sI, if_neg (by omega), u15]) F8 hl (by decide) _ ?_
    rw [x0, x1, x2, x3]
    generalize hX : sI (sI (sI (sI u 3 (4 * ix l + 0) (L (ix a) 0)) 3 (4 * ix l + 1) (L (ix a) 1)) 3 (4 * ix l + 2) (L (ix a) 2)) 3 (4 * ix l + 3) (L (ix a) 3) = X
    have Xc : ∀ c j, c ≠ 3 → gI X c j = gI u c j := fun c j h => by subst hX; rw [gI_sI, if_neg (by omega), gI_sI, if_neg (by omega), gI_sI, if_neg (by omega), gI_sI, if_neg (by omega)]
    have X3 : ∀ w, w < 4 → gI X 3 (4 * ix l + w) = L (ix a) w := fun w hw => by
      subst hX
      have c : w = 0 ∨ w = 1 ∨ w = 2 ∨ w = 3 := by omega
      rcases c with rfl | rfl | rfl | rfl <;> simp [gI_sI]
    have X3' : ∀ j, j < 4 * ix l ∨ 4 * ix l + 4 ≤ j → gI X 3 j = gI u 3 j := fun j h => by subst hX; rw [gI_sI, if_neg (by omega), gI_sI, if_neg (by omega), gI_sI, if_neg (by omega), gI_sI, if_neg (by omega)]
    clear hX
    have X15 : (gI X 0 15).toInt = F := by rw [Xc 0 _ (by decide), u15]
    refine own_28 F X l X15 F8 hl _ ?_
    refine own_29 F _ l (by rw [gI_sI, if_neg (by omega), gI_sI, if_neg (by omega), X15]) F8 hl _ ?_
    refine own_29 F _ k (by rw [gI_sI, if_neg (by omega), gI_sI, if_neg (by omega), gI_sI, if_neg (by omega), X15]) F8 hk _ ?_
    generalize hV : sI (sI (sI (sI X 5 (ix l) 1) 6 (ix l) 1) 8 (ix l) 0) 8 (ix k) 0 = V
    have vc : ∀ c j, c ≠ 5 → c ≠ 6 → c ≠ 8 → gI V c j = gI X c j := fun c j a b d => by subst hV; rw [gI_sI, if_neg (by omega), gI_sI, if_neg (by omega), gI_sI, if_neg (by omega), gI_sI, if_neg (by omega)]
    have v5 : ∀ j, gI V 5 j = if j = ix l then 1 else gI u 5 j := fun j => by subst hV; rw [gI_sI, if_neg (by omega), gI_sI, if_neg (by omega), gI_sI, if_neg (by omega), gI_sI, Xc 5 _ (by decide)]; simp
    have v6 : ∀ j, gI V 6 j = if j = ix l then 1 else gI u 6 j := fun j => by subst hV; rw [gI_sI, if_neg (by omega), gI_sI, if_neg (by omega), gI_sI, gI_sI, if_neg (show ¬ (6 = 5 ∧ j = ix l) by omega), Xc 6 _ (by decide)]; simp
    have v8 : ∀ j, j < F → gI V 8 j = 0 := fun j hj => by
      subst hV; rw [gI_sI]
      by_cases z : j = ix k
      · rw [if_pos ⟨rfl, z⟩]
      · rw [if_neg (fun q => z q.2), gI_sI]
        by_cases z' : j = ix l
        · rw [if_pos ⟨rfl, z'⟩]
        · rw [if_neg (fun q => z' q.2), gI_sI, if_neg (by omega), gI_sI, if_neg (by omega), Xc 8 _ (by decide), u8, if_neg z', t8, if_neg z, o8 j hj]
    clear hV
    refine fin V u m' l Ju hl f4 f7 (fun w hw => by rw [vc 3 _ (by decide) (by decide) (by decide), X3 w hw]) (fun j hj => by rw [vc 3 _ (by decide) (by decide) (by decide), X3' j hj]) (by rw [v5, if_pos rfl]; decide) (fun j hj => by rw [v5, if_neg hj]) (by rw [v6, if_pos rfl]; decide) (fun j hj => by rw [v6, if_neg hj]) (fun c j hc => by rw [vc c j (by omega) (by omega) (by omega), Xc c j (by omega)]) v8 (fun j hj jl j0 => uv j hj jl j0) (fun c j hc => ⟨by rw [vc c j (by omega) (by omega) (by omega), Xc c j (by omega), uc c j hc, tc c j hc], by rw [uc c j hc, tc c j hc]⟩)
/-- sync -/
theorem own_11 (B F P : Nat) (L : Nat → Nat → Int32) (s : St) (O : own_O B F P L s) (Q : St → Prop) (h : ∀ t, own_O B F P L t → (∀ j, j < 32 → gI t 2 j = 1) → (∀ c j, c = 13 ∨ c = 14 ∨ c = 15 → gI t c j = gI s c j) → Q t) : calV PP 11 16 [.ref 0] s Q := by
  obtain ⟨⟨n, J⟩, o8, ov⟩ := O
  obtain ⟨c14, c15, c16, B8, B32, F2, F8, P1, P4⟩ := J.1
  apply c11_in
  refine loop_up (F := fun i => ∀ u n', own_J B F P L u n' → own_T s u → (∀ l, l < ix i → l < F → gI u 7 l ≠ 0 ∨ gI u 6 l = 0 ∨ (gI u 4 l).toInt < 0) → wpcV PP 11 cm11 16 2 [some (.ref 0), some (.int i), none] [] u Q) F (by omega) (fun i i0 i1 e ih u n' Ju Tu ud => ?_) (fun i hi u n' Ju Tu ud => ?_) 0 (by decide) (by simp) s n J (own_T_rfl s) (fun l hl => absurd hl (by simp [ix]))
  · have xi := ix_int i0
    have xj := ix_int (i := i + 1) (by omega)
    have ib : inb 8 i := ⟨i0, by show _ < (8 : Int); omega⟩
    have u15 : (gI u 0 15).toInt = F := Ju.1.2.1
    have nx : ∀ v n'', own_J B F P L v n'' → own_T u v → (gI v 7 (ix i) ≠ 0 ∨ gI v 6 (ix i) = 0 ∨ (gI v 4 (ix i)).toInt < 0) → wpcV PP 11 cm11 16 65 [some (.ref 0), some (.int i), none] [] v Q := by
      intro v n'' Jv Tv vd
      refine c11_65 _ _ _ (ih v n'' Jv (own_T_tr Tu Tv) fun l hl lF => ?_)
      by_cases z : l = ix i
      · rw [z]; exact vd
      · rcases ud l (by omega) lF with q | q | q
        · exact ((Tv.2 l).2.1 (Or.inl q)).imp id Or.inl
        · exact ((Tv.2 l).2.1 (Or.inr q)).imp id Or.inl
        · exact Or.inr (Or.inr (by rw [Tv.1 4 l (by omega)]; exact q))
    refine c11_2 _ _ _ ⟨fun _ => ⟨ib, ib, fun a => nx u n' Ju (own_T_rfl u) (Or.inr (Or.inl a)), fun a => ⟨ib, fun b => ?_, fun b => ⟨ib, fun c => ⟨fun d => nx u n' Ju (own_T_rfl u) (Or.inr (Or.inr (by rw [i32_lt] at d; simpa using d))), fun d => ?_⟩, fun c => nx u n' Ju (own_T_rfl u) (Or.inl c)⟩⟩⟩, fun q => absurd (by rw [i32_lt, u15]; exact i1) q⟩
    · refine nx u n' Ju (own_T_rfl u) (Or.inr (Or.inr ?_))
      have s4 : (gI s 4 (ix i)).toInt = (gI u 4 (ix i)).toInt := by rw [Tu.1 4 _ (by omega)]
      have : ¬ 0 ≤ (gI s 4 (ix i)).toInt := fun q => (Tu.2 (ix i)).1 (ov (ix i) (by omega) q) b
      omega
    · rw [i32_lt] at d; simp at d
      have rng := (Ju.2.2.2.2.2.1.1 (ix i) (by omega)).resolve_left (by omega)
      refine own_36 B F P L u n' i _ 1 Ju ⟨i0, i1⟩ rng rfl c (Or.inr ⟨rfl, b⟩) _ fun t Jt tc => ⟨fun q => absurd q (by decide), fun _ => ⟨ib, nx _ _ Jt ⟨fun c j hc => ?_, fun l => ?_⟩ (Or.inl (by rw [gI_sI, if_pos ⟨rfl, rfl⟩]; decide))⟩⟩
      · rw [gI_sI, if_neg (by omega), tc c j (by omega) (by omega) (by omega) (by omega)]
      · have e5 : gI (sI t 7 (ix i) 1) 5 l = gI u 5 l := by rw [gI_sI, if_neg (by omega), tc 5 l (by decide) (by decide) (by decide) (by omega)]
        have e6 : gI (sI t 7 (ix i) 1) 6 l = gI u 6 l := by rw [gI_sI, if_neg (by omega), tc 6 l (by decide) (by decide) (by decide) (by omega)]
        by_cases z : l = ix i
        · subst z
          have e7 : gI (sI t 7 (ix i) 1) 7 (ix i) = 1 := by rw [gI_sI, if_pos ⟨rfl, rfl⟩]
          rw [e5, e6, e7]
          exact ⟨id, fun _ => Or.inl (by decide), fun p => absurd c p⟩
        · have e7 : gI (sI t 7 (ix i) 1) 7 l = gI u 7 l := by rw [gI_sI, if_neg (fun q => z q.2), tc 7 l (by decide) (by decide) (by decide) (by omega)]
          rw [e5, e6, e7]
          exact ⟨id, id, fun p q => absurd q p⟩
  · have xi := ix_int (i := i) (by omega)
    have u15 : (gI u 0 15).toInt = F := Ju.1.2.1
    refine c11_2 _ _ _ ⟨fun q => absurd q (by rw [i32_lt, u15]; omega), fun _ => ?_⟩
    replace ud := fun l (hl : l < F) => ud l (by omega) hl
    clear hi xi
    -- the drain, then the marks
    have fin : ∀ v, own_J B F P L v 0 → own_T u v → wpcV PP 11 cm11 16 77 [some (.ref 0), some (.int (0 : Int32)), none] [] v Q := by
      intro v Jv Tv
      have Tsv := own_T_tr Tu Tv
      have clean : ∀ b, b < B → ∀ w, w < 4 → gI v 1 (4 * b + w) = L b w := by
        intro b hb w hw
        have xb : ix (Int32.ofNat b) = b := by
          have e : (Int32.ofNat b).toInt = b := Int32.toInt_ofNat_of_lt (by omega)
          have := ix_int (i := Int32.ofNat b) (by omega); omega
        have tb : (Int32.ofNat b).toInt = b := Int32.toInt_ofNat_of_lt (by omega)
        have A := Jv.2.2.2.2.2.2.1 (Int32.ofNat b) (by omega) (by omega) w hw
        rw [xb] at A
        by_cases z : ∃ k, k < F ∧ gI v 4 k = Int32.ofNat b
        · obtain ⟨k, kF, k4⟩ := z
          have k0 : 0 ≤ (gI v 4 k).toInt := by rw [k4]; omega
          have v5 : gI v 5 k ≠ 0 := (Tsv.2 k).1 (ov k kF (by rw [← Tsv.1 4 k (by omega)]; exact k0))
          have v7 : gI v 7 k = 0 := Classical.byContradiction fun q => by
            have := own_cb_pos (s := v) kF q
            have := Jv.2.2.1; omega
          have v6 : gI v 6 k = 0 := by
            rcases ud k kF with q | q | q
            · exact ((Tv.2 k).2.1 (Or.inl q)).resolve_left (fun q => q v7)
            · exact ((Tv.2 k).2.1 (Or.inr q)).resolve_left (fun q => q v7)
            · rw [Tv.1 4 k (by omega)] at k0; omega
          have a := A.1 k kF k4 v5
          have c := Jv.2.2.2.2.2.1.2.2 k kF k0 v5 v6 w hw
          rw [k4, xb] at c
          rw [← a, c]
        · exact A.2 fun k hk e => absurd ⟨k, hk, e⟩ z
      refine loop_up (F := fun i => ∀ t, own_J B F P L t 0 → (∀ c j, c ≠ 2 → gI t c j = gI v c j) → (∀ j, j < ix i → gI t 2 j = 1) → wpcV PP 11 cm11 16 77 [some (.ref 0), some (.int i), none] [] t Q) 32 (by decide) (fun i i0 i1 e ih t Jt tc t2 => ?_) (fun i hi t Jt tc t2 => ?_) 0 (by decide) (by decide) v Jv (fun _ _ _ => rfl) (fun j hj => absurd hj (by simp [ix]))
      · have xi := ix_int i0
        have xj := ix_int (i := i + 1) (by omega)
        refine c11_77 _ _ _ ⟨fun _ => ⟨⟨i0, i1⟩, ih _ (own_know Jt fun hb w hw => by rw [tc 1 _ (by decide), clean _ hb w hw]) (fun c j a => by rw [gI_sI, if_neg (fun q => a q.1), tc c j a]) fun j hj => ?_⟩, fun q => absurd (by rw [i32_lt]; exact i1) q⟩
        rw [gI_sI]
        by_cases z : j = ix i
        · rw [if_pos ⟨rfl, z⟩]
        · rw [if_neg (fun q => z q.2)]; exact t2 j (by omega)
      · have xi := ix_int (i := i) (by omega)
        refine c11_77 _ _ _ ⟨fun q => absurd q (by rw [i32_lt, hi]; decide), fun _ => h t ⟨⟨0, Jt⟩, fun l hl => ?_, fun l hl l0 => ?_⟩ (fun j hj => t2 j (by omega)) (fun c j hc => ?_)⟩
        · rw [tc 8 _ (by decide), Tsv.1 8 _ (by omega), o8 l hl]
        · rw [tc 4 _ (by decide), Tsv.1 4 _ (by omega)] at l0
          rw [tc 5 _ (by decide)]; exact (Tsv.2 l).1 (ov l hl l0)
        · rw [tc c j (by omega), Tsv.1 c j (by omega)]
    have n8 : n' ≤ 8 := by have := own_cb_le u F; have := Ju.2.2.1; omega
    apply c37_in
    have dr : ∀ (m : Nat) (i : Int32) (v : St), 0 ≤ i.toInt → i.toInt + m < 60 → own_J B F P L v m → own_T u v → wpcV PP 37 cm37 16 2 [some (.ref 0), some (.int i)] [] v (fun s685 => wpcV PP 11 cm11 16 77 [some (.ref 0), some (.int (0 : Int32)), none] [] s685 Q) := by
      intro m
      induction m with
      | zero =>
        intro i v i0 i1 Jv Tv
        refine c37_2 _ _ _ ⟨fun _ => own_40 B F P L v 0 Jv _ (fun _ => ⟨fun _ => fin v Jv Tv, fun q => absurd rfl q⟩) fun t k q => absurd rfl q, fun q => absurd (by rw [i32_lt]; simp; omega) q⟩
      | succ m ih =>
        intro i v i0 i1 Jv Tv
        have e : (i + 1).toInt = i.toInt + 1 := by rw [i32_add] <;> simp <;> omega
        refine c37_2 _ _ _ ⟨fun _ => own_40 B F P L v _ Jv _ (fun q => absurd q (by omega)) fun t k _ _ Jt St a1 a2 a3 a4 a5 => ⟨fun q => absurd q (by decide), fun _ => ih (i + 1) t (by omega) (by omega) Jt (own_T_tr Tv (own_40T St a1 a2 a3 a4 a5))⟩, fun q => absurd (by rw [i32_lt]; simp; omega) q⟩
    exact dr n' 0 u (by decide) (by show (0 : Int) + _ < _; omega) Ju (own_T_rfl u)

/-- syncBlock -/
theorem own_10 (B F P : Nat) (L : Nat → Nat → Int32) (s : St) (b : Int32) (O : own_O B F P L s) (Q : Int32 → St → Prop) (hb : ¬ (0 ≤ b.toInt ∧ b.toInt < B) → Q (-3) s)
    (h : (0 ≤ b.toInt ∧ b.toInt < B) → ∀ t, own_O B F P L t → (∀ j, gI t 2 j = if j = ix b then 1 else gI s 2 j) → (∀ c j, c = 13 ∨ c = 14 ∨ c = 15 → gI t c j = gI s c j) → Q 0 t) : calI PP 10 16 [.ref 0, .int b] s Q := by
  obtain ⟨⟨n, J⟩, o8, ov⟩ := O
  obtain ⟨c14, c15, c16, B8, B32, F2, F8, P1, P4⟩ := J.1
  apply c10_in
  refine own_bb B s b c14 _ ?_
  by_cases yb : 0 ≤ b.toInt ∧ b.toInt < B
  rotate_left
  · rw [if_neg yb]; exact ⟨fun q => absurd q (by decide), fun _ => hb yb⟩
  rw [if_pos yb]
  refine ⟨fun _ => ?_, fun q => absurd rfl q⟩
  have xb := ix_int yb.1
  have bi : inb 32 b := ⟨yb.1, by show _ < (32 : Int); omega⟩
  have fin : ∀ t m, own_J B F P L t m → (∀ w, w < 4 → gI t 1 (4 * ix b + w) = L (ix b) w) → (∀ k, k < F → gI t 8 k = 0) → (∀ k, k < F → 0 ≤ (gI t 4 k).toInt → gI t 5 k ≠ 0) → (∀ c j, c = 2 ∨ c = 13 ∨ c = 14 ∨ c = 15 → gI t c j = gI s c j) → wpcI PP 10 cm10 16 77 [some (.ref 0), some (.int b), none] [] t Q := by
    intro t m Jt td t8 tv tc
    have oc : ∀ c j, c ≠ 2 → gI (sI t 2 (ix b) 1) c j = gI t c j := fun c j a => by rw [gI_sI, if_neg (fun q => a q.1)]
    refine c10_77 _ _ _ ⟨bi, h yb _ ⟨⟨m, own_know Jt (fun _ => td)⟩, fun k hk => by rw [oc 8 _ (by decide)]; exact t8 k hk, fun k hk k0 => ?_⟩ (fun j => ?_) (fun c j hc => by rw [oc c j (by omega), tc c j (by omega)])⟩
    · rw [oc 4 _ (by decide)] at k0; rw [oc 5 _ (by decide)]; exact tv k hk k0
    · rw [gI_sI]
      by_cases z : j = ix b
      · rw [if_pos ⟨rfl, z⟩, if_pos z]
      · rw [if_neg (fun q => z q.2), if_neg z, tc 2 j (by omega)]
  refine own_31 F s b c15 F8 _ (fun k k0 k1 e4 => ?_) (fun nf => ?_)
  · have xk := ix_int k0
    have kb : inb 8 k := ⟨k0, by show _ < (8 : Int); omega⟩
    refine ⟨fun q => absurd q (by rw [i32_lt]; simp; omega), fun _ => ?_⟩
    refine own_35 B F P L s n (-1) k J ⟨k0, k1⟩ _ fun t m Jt Tt t7 => ?_
    have t4 : gI t 4 (ix k) = b := by rw [Tt.1 4 _ (by omega), e4]
    have t5 : gI t 5 (ix k) ≠ 0 := (Tt.2 _).1 (ov (ix k) (by omega) (by rw [e4]; exact yb.1))
    -- the second wait
    have go : ∀ u m', own_J B F P L u m' → own_S s u → (∀ l, gI s 5 l ≠ 0 → gI u 5 l ≠ 0) → (gI u 7 (ix k) ≠ 0 ∨ gI u 6 (ix k) = 0) → wpcI PP 10 cm10 16 71 [some (.ref 0), some (.int b), some (.int k)] [] u Q := by
      intro u m' Ju Su u5 ud
      apply c10_71
      refine own_35 B F P L u m' (-1) k Ju ⟨k0, k1⟩ _ fun v m'' Jv Tv v7 => ?_
      have vS : own_S s v := fun c j hc => by rw [Tv.1 c j hc, Su c j hc]
      have v6 : gI v 6 (ix k) = 0 := ((Tv.2 (ix k)).2.1 ud).resolve_left (fun q => q v7)
      have v5 : ∀ l, gI s 5 l ≠ 0 → gI v 5 l ≠ 0 := fun l hl => (Tv.2 l).1 (u5 l hl)
      have v4 : gI v 4 (ix k) = b := by rw [vS 4 _ (by omega), e4]
      have v5k : gI v 5 (ix k) ≠ 0 := v5 _ (ov (ix k) (by omega) (by rw [e4]; exact yb.1))
      refine fin v m'' Jv (fun w hw => ?_) (fun l hl => by rw [vS 8 l (by omega), o8 l hl]) (fun l hl l0 => ?_) (fun c j hc => vS c j (by omega))
      · have a := (Jv.2.2.2.2.2.2.1 b yb.1 yb.2 w hw).1 (ix k) (by omega) v4 v5k
        have c := Jv.2.2.2.2.2.1.2.2 (ix k) (by omega) (by rw [v4]; exact yb.1) v5k v6 w hw
        rw [v4] at c; rw [← a, c]
      · rw [vS 4 l (by omega)] at l0; exact v5 l (ov l hl l0)
    refine ⟨kb, fun d0 => go t m Jt Tt.1 (fun l => (Tt.2 l).1) (Or.inr d0), fun d1 => ⟨kb, fun q => absurd q t5, fun _ => ⟨kb, fun _ => ?_, fun q => absurd t7 q⟩⟩⟩
    refine own_36 B F P L t m k b 1 Jt ⟨k0, k1⟩ yb t4 t7 (Or.inr ⟨rfl, t5⟩) _ fun u Ju uc => ⟨fun q => absurd q (by decide), fun _ => ⟨kb, go _ (m + 1) Ju (fun c j hc => ?_) (fun l hl => ?_) (Or.inl (by rw [gI_sI, if_pos ⟨rfl, rfl⟩]; decide))⟩⟩
    · rw [gI_sI, if_neg (by omega), uc c j (by omega) (by omega) (by omega) (by omega), Tt.1 c j hc]
    · rw [gI_sI, if_neg (by omega), uc 5 l (by decide) (by decide) (by decide) (by omega)]; exact (Tt.2 l).1 hl
  · refine ⟨fun _ => fin s n J (fun w hw => ?_) o8 ov (fun _ _ _ => rfl), fun q => absurd (by decide) q⟩
    exact (J.2.2.2.2.2.2.1 b yb.1 yb.2 w hw).2 fun k hk e => absurd e (nf k hk)

theorem own_m16 (v : Int32) : (v &&& 65535) ≠ -1 := by
  have := Jvm.Kit.i32_mask v 65535 (k := 16) (by decide) (by decide)
  intro q
  rw [q] at this
  have e : ((-1 : Int32)).toInt = -1 := by decide
  rw [e] at this
  omega
def own_gd (L : Nat → Nat → Int32) : Prop := ∀ b w, L b w ≠ -1
theorem own_gd_up {L : Nat → Nat → Int32} (h : own_gd L) (b w : Nat) (v : Int32) : own_gd (own_up L b w (v &&& 65535)) := fun b' w' => by
  unfold own_up; split
  · exact own_m16 v
  · exact h _ _
theorem own_gd_fl {L : Nat → Nat → Int32} (h : own_gd L) (b : Nat) (v : Int32) : own_gd (own_fl L b fun _ => v &&& 65535) := fun b' w' => by
  unfold own_fl; split
  · exact own_m16 v
  · exact h _ _
theorem own_gd_cp {L : Nat → Nat → Int32} (h : own_gd L) (a b : Nat) : own_gd (own_fl L b (L a)) := fun b' w' => by
  unfold own_fl; split
  · exact h _ _
  · exact h _ _
theorem own_lenN {N : Nat} (hN : (N : Int) ≤ (260 : Int32).toInt) : (Int32.ofNat N).toInt = N := by
  have e : (260 : Int32).toInt = 260 := by decide
  exact Int32.toInt_ofNat_of_lt (by omega)

theorem own_cnt (s : St) (P : Nat) (p : Int32) (hP : (gI s 0 16).toInt = P) (h4 : P ≤ 4) (hp : 0 ≤ p.toInt ∧ p.toInt < P) : (∀ Q : Int32 → St → Prop, Q (gI s 14 (ix p)) s → calI PP 16 16 [.ref 0, .int p] s Q) ∧ (∀ Q : Int32 → St → Prop, Q (gI s 15 (ix p)) s → calI PP 17 16 [.ref 0, .int p] s Q) ∧ (∀ Q : Int32 → St → Prop, Q (gI s 13 (ix p)) s → calI PP 15 16 [.ref 0, .int p] s Q) := by
  have pb : inb 4 p := ⟨hp.1, by show _ < (4 : Int); omega⟩
  refine ⟨fun Q h => ?_, fun Q h => ?_, fun Q h => ?_⟩
  · apply c16_in
    refine own_bp P s p hP _ ?_
    rw [if_pos hp]; exact ⟨fun _ => ⟨pb, h⟩, fun q => absurd rfl q⟩
  · apply c17_in
    refine own_bp P s p hP _ ?_
    rw [if_pos hp]; exact ⟨fun _ => ⟨pb, h⟩, fun q => absurd rfl q⟩
  · apply c15_in
    refine own_bp P s p hP _ ?_
    rw [if_pos hp]; exact ⟨fun _ => ⟨pb, h⟩, fun q => absurd rfl q⟩

/-! bits of ints and longs -/
def own_bt (x : Int32) (j : Nat) : Bool := x.toBitVec.getLsbD j
def own_bl (x : Int64) (j : Nat) : Bool := x.toBitVec.getLsbD j
theorem own_i32 (i : Int32) (h0 : 0 ≤ i.toInt) : i = Int32.ofNat (ix i) := by
  have k := ix_int h0
  have r := rng32 i
  rw [i32_eq, Int32.toInt_ofNat_of_lt (by omega)]; omega
theorem own_sh31 (i : Int32) (h0 : 0 ≤ i.toInt) (h1 : i.toInt < 32) : (i &&& 31).toBitVec.smod 32 = BitVec.ofNat 32 (ix i) ∧ ix i < 32 := by
  have k := ix_int h0
  have hn : ix i < 32 := by omega
  have key : ∀ n : Fin 32, (Int32.ofNat n.val &&& 31).toBitVec.smod 32 = BitVec.ofNat 32 n.val := by decide
  have := key ⟨ix i, hn⟩
  rw [← own_i32 i h0] at this
  exact ⟨this, hn⟩
theorem own_bt_one (y : Int32) : (y &&& 1 = 0) ↔ own_bt y 0 = false := by
  unfold own_bt
  constructor
  · intro h
    have := congrArg (fun z => z.toBitVec.getLsbD 0) h
    simpa using this
  · intro h
    apply Int32.toBitVec_inj.mp
    apply BitVec.eq_of_getLsbD_eq
    intro j hj
    rw [Int32.toBitVec_and, BitVec.getLsbD_and]
    have e : (1 : Int32).toBitVec = 1#32 := by decide
    have z : (0 : Int32).toBitVec = 0#32 := by decide
    rw [e, z, BitVec.getLsbD_one]
    by_cases q : j = 0
    · subst q; rw [h, Bool.false_and]; simp
    · simp [q]
theorem own_bt_sar (x i : Int32) (h0 : 0 ≤ i.toInt) (h1 : i.toInt < 32) : own_bt (x >>> (i &&& 31)) 0 = own_bt x (ix i) := by
  obtain ⟨e, hn⟩ := own_sh31 i h0 h1
  unfold own_bt
  rw [Int32.toBitVec_shiftRight, e, BitVec.sshiftRight_eq', BitVec.getLsbD_sshiftRight]
  have e2 : (BitVec.ofNat 32 (ix i)).toNat = ix i := by simp; omega
  rw [e2]; simp [hn]
theorem own_bt_shr (x i : Int32) (h0 : 0 ≤ i.toInt) (h1 : i.toInt < 32) : ((x >>> (i &&& 31)) &&& 1 = 0) ↔ own_bt x (ix i) = false := by
  rw [own_bt_one, own_bt_sar x i h0 h1]
theorem own_bt_shl (i : Int32) (h0 : 0 ≤ i.toInt) (h1 : i.toInt < 32) (j : Nat) (hj : j < 32) : own_bt (1 <<< (i &&& 31)) j = decide (j = ix i) := by
  obtain ⟨e, hn⟩ := own_sh31 i h0 h1
  unfold own_bt
  have e2 : (BitVec.ofNat 32 (ix i)).toNat = ix i := by simp; omega
  have e1 : (1 : Int32).toBitVec = 1#32 := by decide
  rw [Int32.toBitVec_shiftLeft, e, BitVec.shiftLeft_eq', e2, BitVec.getLsbD_shiftLeft, e1, BitVec.getLsbD_one]
  by_cases q : j = ix i
  · subst q; simp [hj]
  · by_cases l : j < ix i
    · simp [l, q]
    · have : ¬ (j - ix i = 0) := by omega
      simp [q, this]
theorem own_bt_or (x i : Int32) (h0 : 0 ≤ i.toInt) (h1 : i.toInt < 32) (j : Nat) (hj : j < 32) : own_bt (x ||| (1 <<< (i &&& 31))) j = (own_bt x j || decide (j = ix i)) := by
  rw [← own_bt_shl i h0 h1 j hj]
  simp [own_bt]
theorem own_bt_neg (x : Int32) (j : Nat) (hj : j < 32) : own_bt (x ^^^ (-1)) j = !own_bt x j := by
  have e : (-1 : Int32).toBitVec = BitVec.allOnes 32 := by decide
  simp [own_bt, e, hj]
theorem own_bt_and (x y : Int32) (j : Nat) : own_bt (x &&& y) j = (own_bt x j && own_bt y j) := by simp [own_bt]
theorem own_bt_clr (x i : Int32) (h0 : 0 ≤ i.toInt) (h1 : i.toInt < 32) (j : Nat) (hj : j < 32) : own_bt (x &&& ((1 <<< (i &&& 31)) ^^^ (-1))) j = (own_bt x j && !decide (j = ix i)) := by
  rw [own_bt_and, own_bt_neg _ _ hj, own_bt_shl i h0 h1 j hj]
theorem own_bt_zero (x : Int32) : x = 0 ↔ ∀ j, j < 32 → own_bt x j = false := by
  constructor
  · intro h j _; rw [h]; simp [own_bt]
  · intro h
    apply Int32.toBitVec_inj.mp
    apply BitVec.eq_of_getLsbD_eq
    intro j hj
    have := h j hj
    have z : (0 : Int32).toBitVec = 0#32 := by decide
    rw [z]; simpa [own_bt] using this
theorem own_bt_0 (j : Nat) : own_bt 0 j = false := by simp [own_bt]
theorem own_bt_tst (x i : Int32) (h0 : 0 ≤ i.toInt) (h1 : i.toInt < 32) : (x &&& (1 <<< (i &&& 31)) = 0) ↔ own_bt x (ix i) = false := by
  have k := ix_int h0
  rw [own_bt_zero]
  constructor
  · intro h
    have := h (ix i) (by omega)
    rw [own_bt_and, own_bt_shl i h0 h1 _ (by omega)] at this
    simpa using this
  · intro h j hj
    rw [own_bt_and, own_bt_shl i h0 h1 _ hj]
    by_cases z : j = ix i
    · rw [z, h]; rfl
    · simp [z]
theorem own_bt_ext {x y : Int32} (h : ∀ j, j < 32 → own_bt x j = own_bt y j) : x = y :=
  Int32.toBitVec_inj.mp (BitVec.eq_of_getLsbD_eq h)
theorem own_bt_s16 (y : Int32) (j : Nat) (hj : j < 16) : own_bt (y <<< ((16 : Int32) &&& 31)) j = false := by
  have e : ((16 : Int32) &&& 31).toBitVec.smod 32 = 16#32 := by decide
  have e2 : (16#32).toNat = 16 := by decide
  unfold own_bt
  rw [Int32.toBitVec_shiftLeft, e, BitVec.shiftLeft_eq', e2, BitVec.getLsbD_shiftLeft]
  simp [hj]
theorem own_bt_15 (j : Nat) (hj : j < 32) : own_bt 15 j = decide (j < 4) := by
  have b : ∀ j : Fin 32, own_bt 15 j.val = decide (j.val < 4) := by decide
  exact b ⟨j, hj⟩
theorem own_bt_64k (j : Nat) (hj : j < 32) : own_bt 65535 j = decide (j < 16) := by
  have b : ∀ j : Fin 32, own_bt 65535 j.val = decide (j.val < 16) := by decide
  exact b ⟨j, hj⟩
/-! nibbles of a long -/
theorem own_sh63 (i : Int32) (h0 : 0 ≤ i.toInt) (h1 : i.toInt < 16) : ((4 * i).toInt64 &&& 63).toBitVec.smod 64 = BitVec.ofNat 64 (4 * ix i) ∧ ((4 * i).toInt64.toUInt64 &&& Int64.toUInt64 63).toBitVec % 64 = BitVec.ofNat 64 (4 * ix i) ∧ ix i < 16 := by
  have k := ix_int h0
  have hn : ix i < 16 := by omega
  have key : ∀ n : Fin 16, ((4 * Int32.ofNat n.val).toInt64 &&& 63).toBitVec.smod 64 = BitVec.ofNat 64 (4 * n.val) ∧ ((4 * Int32.ofNat n.val).toInt64.toUInt64 &&& Int64.toUInt64 63).toBitVec % 64 = BitVec.ofNat 64 (4 * n.val) := by decide
  have := key ⟨ix i, hn⟩
  rw [← own_i32 i h0] at this
  exact ⟨this.1, this.2, hn⟩
def own_nb (x : Int64) (i : Int32) : Int64 := Jvm.Free.XT.ushrL x (4 * i) &&& 15
theorem own_nb_bit (x : Int64) (i : Int32) (h0 : 0 ≤ i.toInt) (h1 : i.toInt < 16) (j : Nat) (hj : j < 64) : own_bl (own_nb x i) j = (own_bl x (4 * ix i + j) && decide (j < 4)) := by
  obtain ⟨_, e, hn⟩ := own_sh63 i h0 h1
  have e2 : (BitVec.ofNat 64 (4 * ix i)).toNat = 4 * ix i := by simp; omega
  have f : (15 : Int64).toBitVec = 15#64 := by decide
  have b15 : ∀ j : Fin 64, (15#64).getLsbD j.val = decide (j.val < 4) := by decide
  have c15 := b15 ⟨j, hj⟩
  simp only at c15
  unfold own_bl own_nb Jvm.Free.XT.ushrL
  rw [Int64.toBitVec_and, BitVec.getLsbD_and, f, c15]
  have g : ((x.toUInt64 >>> ((4 * i).toInt64.toUInt64 &&& Int64.toUInt64 63)).toInt64).toBitVec = x.toBitVec >>> (4 * ix i) := by
    show (x.toUInt64 >>> ((4 * i).toInt64.toUInt64 &&& Int64.toUInt64 63)).toBitVec = _
    rw [UInt64.toBitVec_shiftRight, e, BitVec.ushiftRight_eq', e2]
    rfl
  rw [g, BitVec.getLsbD_ushiftRight]
theorem own_bl_ext {x y : Int64} (h : ∀ j, j < 64 → own_bl x j = own_bl y j) : x = y :=
  Int64.toBitVec_inj.mp (BitVec.eq_of_getLsbD_eq h)
theorem own_bl_sml (v : Int32) (h0 : 0 ≤ v.toInt) (h1 : v.toInt < 16) (j : Nat) : 4 ≤ j → own_bl (Int32.toInt64 v) j = false := by
  intro hj
  have k := ix_int h0
  have hn : ix v < 16 := by omega
  have key : ∀ n : Fin 16, (Int32.ofNat n.val).toInt64.toBitVec = BitVec.ofNat 64 n.val := by decide
  have := key ⟨ix v, hn⟩
  rw [← own_i32 v h0] at this
  unfold own_bl
  rw [this]
  simp only [BitVec.getLsbD_ofNat]
  have : (ix v).testBit j = false := Nat.testBit_lt_two_pow (Nat.lt_of_lt_of_le hn (by
    have : 2 ^ 4 ≤ 2 ^ j := Nat.pow_le_pow_right (by decide) hj
    omega))
  simp [this]
/-- nibble i set to v -/
def own_ns4 (x : Int64) (i v : Int32) : Int64 := (x &&& (((15 : Int64) <<< ((4 * i).toInt64 &&& 63)) ^^^ (-1 : Int64))) ||| (Int32.toInt64 v <<< ((4 * i).toInt64 &&& 63))
theorem own_ns4_bit (x : Int64) (i v : Int32) (h0 : 0 ≤ i.toInt) (h1 : i.toInt < 16) (v0 : 0 ≤ v.toInt) (v1 : v.toInt < 16) (j : Nat) (hj : j < 64) : own_bl (own_ns4 x i v) j = if 4 * ix i ≤ j ∧ j < 4 * ix i + 4 then own_bl (Int32.toInt64 v) (j - 4 * ix i) else own_bl x j := by
  obtain ⟨e, _, hn⟩ := own_sh63 i h0 h1
  have e2 : (BitVec.ofNat 64 (4 * ix i)).toNat = 4 * ix i := by simp; omega
  have f : (15 : Int64).toBitVec = 15#64 := by decide
  have m1 : (-1 : Int64).toBitVec = BitVec.allOnes 64 := by decide
  have b15 : ∀ j : Nat, j < 64 → (15#64).getLsbD j = decide (j < 4) := fun j hj => by
    have b : ∀ j : Fin 64, (15#64).getLsbD j.val = decide (j.val < 4) := by decide
    exact b ⟨j, hj⟩
  have sml := own_bl_sml v v0 v1
  unfold own_bl at *
  unfold own_ns4
  rw [Int64.toBitVec_or, Int64.toBitVec_and, Int64.toBitVec_xor, Int64.toBitVec_shiftLeft, Int64.toBitVec_shiftLeft, e, BitVec.shiftLeft_eq', BitVec.shiftLeft_eq', e2, f, m1]
  rw [BitVec.getLsbD_or, BitVec.getLsbD_and, BitVec.getLsbD_xor, BitVec.getLsbD_shiftLeft, BitVec.getLsbD_shiftLeft, BitVec.getLsbD_allOnes, b15 _ (by omega)]
  by_cases l : j < 4 * ix i
  · rw [if_neg (by omega)]; simp [l, hj]
  · by_cases u : j < 4 * ix i + 4
    · rw [if_pos (by omega)]
      have : j - 4 * ix i < 4 := by omega
      simp [l, hj, this]
    · rw [if_neg (by omega), sml _ (by omega)]
      have : ¬ (j - 4 * ix i < 4) := by omega
      simp [hj, this]
theorem own_nb_set (x : Int64) (i v : Int32) (h0 : 0 ≤ i.toInt) (h1 : i.toInt < 16) (v0 : 0 ≤ v.toInt) (v1 : v.toInt < 16) (k : Int32) (k0 : 0 ≤ k.toInt) (k1 : k.toInt < 16) : own_nb (own_ns4 x i v) k = if k = i then Int32.toInt64 v else own_nb x k := by
  have ki := ix_int h0
  have kk := ix_int k0
  apply own_bl_ext
  intro j hj
  rw [own_nb_bit _ _ k0 k1 j hj]
  by_cases q : j < 4
  · rw [own_ns4_bit x i v h0 h1 v0 v1 _ (by omega)]
    by_cases z : k = i
    · rw [if_pos z]; subst z; rw [if_pos (by omega), Nat.add_sub_cancel_left]; simp [q]
    · rw [if_neg z, own_nb_bit _ _ k0 k1 j hj]
      rw [i32_eq] at z
      rw [if_neg (by omega)]
  · have : decide (j < 4) = false := by simp [q]
    rw [this, Bool.and_false]
    by_cases z : k = i
    · rw [if_pos z, own_bl_sml v v0 v1 j (by omega)]
    · rw [if_neg z, own_nb_bit _ _ k0 k1 j hj, this, Bool.and_false]

/-! 16-bit fields of a long -/
theorem own_h63 (i : Int32) (h0 : 0 ≤ i.toInt) (h1 : i.toInt < 4) : ((16 * i).toInt64 &&& 63).toBitVec.smod 64 = BitVec.ofNat 64 (16 * ix i) ∧ ((16 * i).toInt64.toUInt64 &&& Int64.toUInt64 63).toBitVec % 64 = BitVec.ofNat 64 (16 * ix i) ∧ ix i < 4 := by
  have k := ix_int h0
  have hn : ix i < 4 := by omega
  have key : ∀ n : Fin 4, ((16 * Int32.ofNat n.val).toInt64 &&& 63).toBitVec.smod 64 = BitVec.ofNat 64 (16 * n.val) ∧ ((16 * Int32.ofNat n.val).toInt64.toUInt64 &&& Int64.toUInt64 63).toBitVec % 64 = BitVec.ofNat 64 (16 * n.val) := by decide
  have := key ⟨ix i, hn⟩
  rw [← own_i32 i h0] at this
  exact ⟨this.1, this.2, hn⟩
theorem own_b65 (j : Nat) (hj : j < 64) : own_bl 65535 j = decide (j < 16) := by
  have b : ∀ j : Fin 64, own_bl 65535 j.val = decide (j.val < 16) := by decide
  exact b ⟨j, hj⟩
theorem own_bl_and (x y : Int64) (j : Nat) : own_bl (x &&& y) j = (own_bl x j && own_bl y j) := by simp [own_bl]
theorem own_bl_or (x y : Int64) (j : Nat) : own_bl (x ||| y) j = (own_bl x j || own_bl y j) := by simp [own_bl]
theorem own_bl_neg (x : Int64) (j : Nat) (hj : j < 64) : own_bl (x ^^^ (-1)) j = !own_bl x j := by
  have e : (-1 : Int64).toBitVec = BitVec.allOnes 64 := by decide
  simp [own_bl, e, hj]
def own_fb (x : Int64) (i : Int32) : Int64 := Jvm.Free.XT.ushrL x (16 * i) &&& 65535
theorem own_fb_bit (x : Int64) (i : Int32) (h0 : 0 ≤ i.toInt) (h1 : i.toInt < 4) (j : Nat) (hj : j < 64) : own_bl (own_fb x i) j = (own_bl x (16 * ix i + j) && decide (j < 16)) := by
  obtain ⟨_, e, hn⟩ := own_h63 i h0 h1
  have e2 : (BitVec.ofNat 64 (16 * ix i)).toNat = 16 * ix i := by simp; omega
  unfold own_fb
  rw [own_bl_and, own_b65 j hj]
  unfold own_bl Jvm.Free.XT.ushrL
  have g : ((x.toUInt64 >>> ((16 * i).toInt64.toUInt64 &&& Int64.toUInt64 63)).toInt64).toBitVec = x.toBitVec >>> (16 * ix i) := by
    show (x.toUInt64 >>> ((16 * i).toInt64.toUInt64 &&& Int64.toUInt64 63)).toBitVec = _
    rw [UInt64.toBitVec_shiftRight, e, BitVec.ushiftRight_eq', e2]
    rfl
  rw [g, BitVec.getLsbD_ushiftRight]
theorem own_bl_shl (x : Int64) (y : Int64) (n : Nat) (hn : n < 64) (e : (y &&& 63).toBitVec.smod 64 = BitVec.ofNat 64 n) (j : Nat) (hj : j < 64) : own_bl (x <<< (y &&& 63)) j = (decide (n ≤ j) && own_bl x (j - n)) := by
  have e2 : (BitVec.ofNat 64 n).toNat = n := by simp; omega
  unfold own_bl
  rw [Int64.toBitVec_shiftLeft, e, BitVec.shiftLeft_eq', e2, BitVec.getLsbD_shiftLeft]
  by_cases l : n ≤ j
  · have : ¬ j < n := by omega
    simp [l, this, hj]
  · have : j < n := by omega
    simp [l, this]
def own_fs (x : Int64) (i v : Int32) : Int64 := (x &&& (((65535 : Int64) <<< ((16 * i).toInt64 &&& 63)) ^^^ (-1 : Int64))) ||| ((Int32.toInt64 v &&& 65535) <<< ((16 * i).toInt64 &&& 63))
theorem own_fb_set (x : Int64) (i v : Int32) (h0 : 0 ≤ i.toInt) (h1 : i.toInt < 4) (k : Int32) (k0 : 0 ≤ k.toInt) (k1 : k.toInt < 4) : own_fb (own_fs x i v) k = if k = i then (Int32.toInt64 v &&& 65535) else own_fb x k := by
  have ki := ix_int h0
  have kk := ix_int k0
  obtain ⟨e, _, hn⟩ := own_h63 i h0 h1
  apply own_bl_ext
  intro j hj
  rw [own_fb_bit _ _ k0 k1 j hj]
  by_cases q : j < 16
  · have J : 16 * ix k + j < 64 := by omega
    unfold own_fs
    rw [own_bl_or, own_bl_and, own_bl_neg _ _ J, own_bl_shl _ _ (16 * ix i) (by omega) e _ J, own_bl_shl _ _ (16 * ix i) (by omega) e _ J]
    by_cases z : k = i
    · rw [if_pos z]; subst z
      have c : 16 * ix k + j - 16 * ix k = j := by omega
      rw [c, own_b65 j hj]
      simp [q]
    · rw [if_neg z, own_fb_bit _ _ k0 k1 j hj]
      rw [i32_eq] at z
      by_cases l : 16 * ix i ≤ 16 * ix k + j
      · rw [own_bl_and, own_b65 _ (by omega)]
        have : ¬ (16 * ix k + j - 16 * ix i < 16) := by omega
        simp [this, q]
      · simp [l, q]
  · have : decide (j < 16) = false := by simp [q]
    rw [this, Bool.and_false]
    by_cases z : k = i
    · rw [if_pos z, own_bl_and, own_b65 j hj, this, Bool.and_false]
    · rw [if_neg z, own_fb_bit _ _ k0 k1 j hj, this, Bool.and_false]
def own_f4 (x : Int64) : Int64 := ((x ||| (x <<< ((16 : Int32).toInt64 &&& 63))) ||| (x <<< ((32 : Int32).toInt64 &&& 63))) ||| (x <<< ((48 : Int32).toInt64 &&& 63))
theorem own_fb_f4 (v : Int32) (k : Int32) (k0 : 0 ≤ k.toInt) (k1 : k.toInt < 4) : own_fb (own_f4 (Int32.toInt64 v &&& 65535)) k = Int32.toInt64 v &&& 65535 := by
  have kk := ix_int k0
  apply own_bl_ext
  intro j hj
  rw [own_fb_bit _ _ k0 k1 j hj]
  by_cases q : j < 16
  · have J : 16 * ix k + j < 64 := by omega
    unfold own_f4
    rw [own_bl_or, own_bl_or, own_bl_or, own_bl_shl _ _ 16 (by decide) (by decide) _ J, own_bl_shl _ _ 32 (by decide) (by decide) _ J, own_bl_shl _ _ 48 (by decide) (by decide) _ J]
    have hi : ∀ m, 16 ≤ m → m < 64 → own_bl (Int32.toInt64 v &&& 65535) m = false := fun m a b => by
      have : ¬ m < 16 := by omega
      rw [own_bl_and, own_b65 m b]; simp [this]
    have c : ix k = 0 ∨ ix k = 1 ∨ ix k = 2 ∨ ix k = 3 := by omega
    rcases c with c | c | c | c <;> rw [c]
    · have a1 : ¬ 16 ≤ 16 * 0 + j := by omega
      have a2 : ¬ 32 ≤ 16 * 0 + j := by omega
      have a3 : ¬ 48 ≤ 16 * 0 + j := by omega
      simp only [a1, a2, a3, decide_false, Bool.false_and, Bool.or_false, q, decide_true, Bool.and_true]
      simp
    · have a1 : 16 ≤ 16 * 1 + j := by omega
      have a2 : ¬ 32 ≤ 16 * 1 + j := by omega
      have a3 : ¬ 48 ≤ 16 * 1 + j := by omega
      rw [hi (16 * 1 + j) (by omega) (by omega)]
      have b : 16 * 1 + j - 16 = j := by omega
      simp only [a1, a2, a3, b, decide_false, decide_true, Bool.true_and, Bool.false_or, Bool.false_and, Bool.or_false, q, Bool.and_true]
    · have a1 : 16 ≤ 16 * 2 + j := by omega
      have a2 : 32 ≤ 16 * 2 + j := by omega
      have a3 : ¬ 48 ≤ 16 * 2 + j := by omega
      rw [hi (16 * 2 + j) (by omega) (by omega), hi (16 * 2 + j - 16) (by omega) (by omega)]
      have b : 16 * 2 + j - 32 = j := by omega
      simp only [a1, a2, a3, b, decide_false, decide_true, Bool.true_and, Bool.false_or, Bool.false_and, Bool.or_false, q, Bool.and_true]
    · have a1 : 16 ≤ 16 * 3 + j := by omega
      have a2 : 32 ≤ 16 * 3 + j := by omega
      have a3 : 48 ≤ 16 * 3 + j := by omega
      rw [hi (16 * 3 + j) (by omega) (by omega), hi (16 * 3 + j - 16) (by omega) (by omega), hi (16 * 3 + j - 32) (by omega) (by omega)]
      have b : 16 * 3 + j - 48 = j := by omega
      simp only [a1, a2, a3, b, decide_true, Bool.true_and, Bool.false_or, q, Bool.and_true]
  · have : decide (j < 16) = false := by simp [q]
    rw [this, Bool.and_false, own_bl_and, own_b65 j hj, this, Bool.and_false]
theorem own_lo16 (v : Int32) : Int64.toInt32 (Int32.toInt64 v &&& 65535) = v &&& 65535 := by
  have a := Jvm.Kit.i64_mask (Int32.toInt64 v) 65535 (k := 16) (by decide) (by decide)
  have b := Jvm.Kit.i32_mask v 65535 (k := 16) (by decide) (by decide)
  rw [i32_eq, Int64.toInt_toInt32, a, b, Int32.toInt_toInt64]
  exact Int.bmod_eq_of_le (by omega) (by omega)

abbrev own_T62 (N : Nat) (sg : Nat → Int32) (x3 x5 x7 x9 : Int64) (x11 x12 x13 x14 x15 x16 x17 x18 : Int32) (s : St) : Prop := wplI PP QQ (some (N, sg)) 0 lm0 62 [some (.ref 0), some (.int 0), some (.ref 1), some (.long x3), none, some (.long x5), none, some (.long x7), none, some (.long x9), none, some (.int x11), some (.int x12), some (.int x13), some (.int x14), some (.int x15), some (.int x16), some (.int x17), some (.int x18), none, none, none, none, none, none, none, none, none, none, none, none, none] [] (W1 s) (fun v _ => v = 1)
abbrev own_T575 (N : Nat) (sg : Nat → Int32) (x3 x5 x7 x9 : Int64) (x11 x12 x13 x14 x15 x16 x17 x18 : Int32) (x20 x25 : Int32) (x26 : Int64) (x28 x29 : Int32) (s : St) : Prop := wplI PP QQ (some (N, sg)) 0 lm0 575 [some (.ref 0), some (.int 0), some (.ref 1), some (.long x3), none, some (.long x5), none, some (.long x7), none, some (.long x9), none, some (.int x11), some (.int x12), some (.int x13), some (.int x14), some (.int x15), some (.int x16), some (.int x17), some (.int x18), none, some (.int x20), none, none, none, none, some (.int x25), some (.long x26), none, some (.int x28), some (.int x29), none, none] [] (W1 s) (fun v _ => v = 1)
abbrev own_T322 (N : Nat) (sg : Nat → Int32) (x3 x5 x7 x9 : Int64) (x11 x12 x13 x14 x15 x16 x17 x18 : Int32) (x20 x21 x23 x24 x25 : Int32) (x26 : Int64) (x28 : Int32) (s : St) : Prop := wplI PP QQ (some (N, sg)) 0 lm0 322 [some (.ref 0), some (.int 0), some (.ref 1), some (.long x3), none, some (.long x5), none, some (.long x7), none, some (.long x9), none, some (.int x11), some (.int x12), some (.int x13), some (.int x14), some (.int x15), some (.int x16), some (.int x17), some (.int x18), none, some (.int x20), some (.int x21), none, some (.int x23), some (.int x24), some (.int x25), some (.long x26), none, some (.int x28), none, none, none] [] (W1 s) (fun v _ => v = 1)
def own_pk (x3 x5 x7 x9 : Int64) (b : Nat) : Int64 := if b = 0 then x3 else if b = 1 then x5 else if b = 2 then x7 else x9
def own_LM (L : Nat → Nat → Int32) (x3 x5 x7 x9 : Int64) : Prop := ∀ b, b < 4 → ∀ w : Int32, 0 ≤ w.toInt → w.toInt < 4 → L b (ix w) = Int64.toInt32 (own_fb (own_pk x3 x5 x7 x9 b) w)
def own_A8 (F : Nat) (s : St) (L : Nat → Nat → Int32) (x3 x5 x7 x9 : Int64) (x11 x12 x13 x14 x15 x16 x17 : Int32) : Prop := own_O 8 F 2 L s ∧ own_LM L x3 x5 x7 x9 ∧ (∀ j, j < 4 → (own_bt x11 j = true ↔ gI s 2 j = 0)) ∧ (∀ j, 4 ≤ j → j < 8 → gI s 2 j ≠ 0) ∧ gI s 14 0 = x12 ∧ gI s 14 1 = x13 ∧ gI s 15 0 = x14 ∧ gI s 15 1 = x15 ∧ gI s 13 0 = x16 ∧ gI s 13 1 = x17
theorem own_pick8 (N : Nat) (sg : Nat → Int32) (s : St) (x3 x5 x7 x9 : Int64) (b : Int32) (Q : Int64 → _ → Prop) (h : ∀ v, ((0 ≤ b.toInt ∧ b.toInt < 4) → v = own_pk x3 x5 x7 x9 (ix b)) → Q v (W1 s)) : lalL PP QQ (some (N, sg)) 4 [.long x3, .long x5, .long x7, .long x9, .int b] (W1 s) Q := by
  apply l4W1_in
  refine ⟨fun e => h _ fun _ => ?_, fun e => ⟨fun e1 => h _ fun _ => ?_, fun e1 => ⟨fun e2 => h _ fun _ => ?_, fun e2 => h _ fun q => ?_⟩⟩⟩
  · subst e; rfl
  · subst e1; rfl
  · subst e2; rfl
  · have k := ix_int q.1
    rw [i32_eq] at e e1 e2
    simp at e e1 e2
    have : ix b = 3 := by omega
    rw [this]; rfl
theorem own_bit1 (x i : Int32) (h0 : 0 ≤ i.toInt) (h1 : i.toInt < 32) : ((x >>> (i &&& 31)) &&& 1 = 1) ↔ own_bt x (ix i) = true := by
  have m := Jvm.Kit.i32_mask (x >>> (i &&& 31)) 1 (k := 1) (by decide) (by decide)
  have z := own_bt_shr x i h0 h1
  rw [i32_eq] at z ⊢
  have e0 : (0 : Int32).toInt = 0 := by decide
  have e1 : (1 : Int32).toInt = 1 := by decide
  rw [e0] at z
  rw [e1]
  constructor
  · intro h
    cases q : own_bt x (ix i)
    · have := z.mpr q; omega
    · rfl
  · intro h
    have : ¬ ((x >>> (i &&& 31)) &&& 1).toInt = 0 := fun y => by rw [z.mp y] at h; exact absurd h (by decide)
    omega
theorem own_agree8 (N : Nat) (sg : Nat → Int32) (F : Nat) (s : St) (L : Nat → Nat → Int32) (x3 x5 x7 x9 : Int64) (x11 x12 x13 x14 x15 x16 x17 : Int32) (h : own_A8 F s L x3 x5 x7 x9 x11 x12 x13 x14 x15 x16 x17) (Q : Int32 → _ → Prop) (hq : Q 1 (W1 s)) : lalI PP QQ (some (N, sg)) 5 [.ref 1, .long x3, .long x5, .long x7, .long x9, .int x11] (W1 s) Q := by
  obtain ⟨O, hL, hk, hk8, _⟩ := h
  apply l5r1W1_in
  refine loop_up (F := fun i => ∀ p : Int32, p.toInt = own_uc s (ix i) → wplI PP QQ (some (N, sg)) 5 lm5 6 [some (.ref 1), some (.long x3), none, some (.long x5), none, some (.long x7), none, some (.long x9), none, some (.int x11), some (.int p), some (.int i), none, none, none, none, none] [] (W1 s) Q) 4 (by decide) (fun i i0 i1 e ih p hp => ?_) (fun i hi p hp => ?_) 0 (by decide) (by decide) 0 (by simp [ix, own_uc])
  · have ki := ix_int i0
    have kj := ix_int (i := i + 1) (by omega)
    have ej : ix (i + 1) = ix i + 1 := by omega
    have i4 : ix i < 4 := by omega
    apply l5r1W1_6
    refine ⟨fun _ => own_pick8 N sg s x3 x5 x7 x9 i _ fun v hv => ⟨s, rfl, fun m1 e1 m2 e2 => own_14 8 F 2 L s i O _ ?_⟩, fun q => absurd (by rw [i32_lt]; exact i1) q⟩
    have hv := hv ⟨i0, i1⟩
    rw [if_pos ⟨i0, by omega⟩]
    have g : ∀ w : Int32, 0 ≤ w.toInt → w.toInt < 4 → L (ix i) (ix w) = Int64.toInt32 (Jvm.Free.XT.ushrL v (16 * w) &&& 65535) := fun w w0 w1 => by rw [hv]; exact hL _ i4 w w0 w1
    refine l2W1_in _ _ _ _ _ _ ⟨s, rfl, l2W1_in _ _ _ _ _ _ ⟨s, rfl, l2W1_in _ _ _ _ _ _ ⟨s, rfl, l2W1_in _ _ _ _ _ _ ⟨s, rfl, fun _ => ?_, fun z => absurd ?_ z⟩⟩⟩⟩
    · have nxt : wplI PP QQ (some (N, sg)) 5 lm5 6 [some (.ref 1), some (.long x3), none, some (.long x5), none, some (.long x7), none, some (.long x9), none, some (.int x11), some (.int m2), some (.int (i + 1)), none, none, none, none, none] [] (W1 s) Q := by
        refine ih m2 ?_
        have ul := own_uc_le s (ix i)
        rw [ej, own_uc]
        by_cases q : gI s 2 (ix i) = 0
        · rw [if_pos ((own_bit1 x11 i i0 (by omega)).mpr ((hk _ i4).mpr q))] at e1
          rw [if_neg (by rw [e1]; decide)] at e2
          have : (p + 1).toInt = p.toInt + 1 := i32_add (by simp; omega) (by simp; omega)
          rw [if_pos q, e2, this, hp]; rfl
        · rw [if_neg (fun z => q ((hk _ i4).mp ((own_bit1 x11 i i0 (by omega)).mp z)))] at e1
          rw [if_pos e1] at e2
          rw [if_neg q, e2, hp]; rfl
      refine loop_up (F := fun j => wplI PP QQ (some (N, sg)) 5 lm5 92 [some (.ref 1), some (.long x3), none, some (.long x5), none, some (.long x7), none, some (.long x9), none, some (.int x11), some (.int m2), some (.int i), some (.long v), none, some (.int m1), some (.int j), none] [] (W1 s) Q) 4 (by decide) (fun j j0 j1 ej ihj => ?_) (fun j hj => ?_) 0 (by decide) (by decide)
      · have kj := ix_int j0
        have dw : ∀ y : Int32, y = (if gI s 2 (ix i) = 0 then -1 else L (ix i) (ix j)) → wplI PP QQ (some (N, sg)) 5 lm5 114 [some (.ref 1), some (.long x3), none, some (.long x5), none, some (.long x7), none, some (.long x9), none, some (.int x11), some (.int m2), some (.int i), some (.long v), none, some (.int m1), some (.int j), none] [.int y] (W1 s) Q := by
          intro y hy
          apply l5r1W1_114
          refine own_12 8 F 2 L s i j O _ ?_
          rw [if_pos ⟨i0, by omega⟩, if_pos ⟨j0, j1⟩, ← hy]
          exact ⟨fun _ => ihj, fun z => absurd rfl z⟩
        apply l5r1W1_92
        refine ⟨fun _ => ⟨fun z => l2W1_in _ _ _ _ _ _ ⟨s, rfl, dw _ ?_⟩, fun z => dw _ ?_⟩, fun q => absurd (by rw [i32_lt]; exact j1) q⟩
        · rw [if_neg, g j j0 j1]
          intro q
          rw [if_pos ((own_bit1 x11 i i0 (by omega)).mpr ((hk _ i4).mpr q))] at e1
          rw [e1] at z; exact absurd z (by decide)
        · rw [if_pos]
          refine Classical.byContradiction fun q => ?_
          rw [if_neg (fun z => q ((hk _ i4).mp ((own_bit1 x11 i i0 (by omega)).mp z)))] at e1
          exact z e1
      · exact l5r1W1_92 _ _ _ _ _ _ _ _ _ _ _ _ _ _ ⟨fun q => absurd q (by rw [i32_lt, hj]; decide), fun _ => nxt⟩
    · rw [← g 0 (by decide) (by decide), ← g 1 (by decide) (by decide), ← g 2 (by decide) (by decide), ← g 3 (by decide) (by decide)]; rfl
  · have : ix i = 4 := by have := ix_int (i := i) (by omega); omega
    rw [this] at hp
    apply l5r1W1_6
    refine ⟨fun q => absurd q (by rw [i32_lt, hi]; decide), fun _ => own_13 8 F 2 L s O _ fun v hv => ⟨fun _ => hq, fun z => absurd ?_ z⟩⟩
    have u8 : own_uc s 8 = own_uc s 4 := by
      rw [own_uc, own_uc, own_uc, own_uc, if_neg (hk8 7 (by decide) (by decide)), if_neg (hk8 6 (by decide) (by decide)), if_neg (hk8 5 (by decide) (by decide)), if_neg (hk8 4 (by decide) (by decide))]; rfl
    rw [i32_eq, hv, hp, u8]
theorem own_e575 (N : Nat) (sg : Nat → Int32) (F : Nat) (s : St) (L : Nat → Nat → Int32) (x3 x5 x7 x9 : Int64) (x11 x12 x13 x14 x15 x16 x17 x18 x20 x25 : Int32) (x26 : Int64) (x28 x29 : Int32) (ee : x29 = x25) (h : own_A8 F s L (if x28 < 0 then x3 else (if x28 = 0 then x26 else x3)) (if x28 < 0 then x5 else (if x28 = 0 then x5 else (if x28 = 1 then x26 else x5))) (if x28 < 0 then x7 else (if x28 = 0 then x7 else (if x28 = 1 then x7 else (if x28 = 2 then x26 else x7)))) (if x28 < 0 then x9 else (if x28 = 0 then x9 else (if x28 = 1 then x9 else (if x28 = 2 then x9 else x26)))) (if x28 < 0 then x11 else (x11 ||| (1 <<< (x28 &&& 31)))) x12 x13 (if x28 < 0 then x14 else (if x20 = 0 then (x14 + 1) else x14)) (if x28 < 0 then x15 else (if x20 = 0 then x15 else (x15 + 1))) x16 x17) (nx : ∀ y3 y5 y7 y9 y11 y14 y15, own_A8 F s L y3 y5 y7 y9 y11 x12 x13 y14 y15 x16 x17 → own_T62 N sg y3 y5 y7 y9 y11 x12 x13 y14 y15 x16 x17 (x18 + 5) s) : own_T575 N sg x3 x5 x7 x9 x11 x12 x13 x14 x15 x16 x17 x18 x20 x25 x26 x28 x29 s := by
  apply l0_575
  refine ⟨fun _ m1 e1 m2 e2 m3 e3 m4 e4 m5 e5 m6 e6 m7 e7 => ?_, fun z => absurd ee z⟩
  rw [← e1, ← e2, ← e3, ← e4, ← e5, ← e6, ← e7] at h
  refine own_agree8 N sg F s L m1 m2 m3 m4 m5 x12 x13 m6 m7 x16 x17 h _ ⟨s, rfl, fun z => absurd z (by decide), fun _ => ?_⟩
  have h' := h
  obtain ⟨O, _, _, _, c1, c2, c3, c4, c5, c6⟩ := h'
  have s16 : (gI s 0 16).toInt = (2 : Nat) := O.1.choose_spec.1.2.2.1
  obtain ⟨p0, q0, r0⟩ := own_cnt s 2 0 s16 (by decide) (by decide)
  obtain ⟨p1, q1, r1⟩ := own_cnt s 2 1 s16 (by decide) (by decide)
  refine p0 _ ⟨fun _ => p1 _ ⟨fun _ => q0 _ ⟨fun _ => q1 _ ⟨fun _ => r0 _ ⟨fun _ => r1 _ ⟨fun _ => ?_, fun z => absurd c6 z⟩, fun z => absurd c5 z⟩, fun z => absurd c4 z⟩, fun z => absurd c3 z⟩, fun z => absurd c2 z⟩, fun z => absurd c1 z⟩
  apply c15_in
  refine own_bp 2 s 2 s16 _ ?_
  rw [if_neg (by decide)]
  refine ⟨fun z => absurd z (by decide), fun _ => ⟨fun _ => nx _ _ _ _ _ _ _ h, fun z => absurd rfl z⟩⟩
/-- no block was written -/
theorem own_n575 (N : Nat) (sg : Nat → Int32) (F : Nat) (s : St) (L : Nat → Nat → Int32) (x3 x5 x7 x9 : Int64) (x11 x12 x13 x14 x15 x16 x17 x18 x20 x25 : Int32) (x26 : Int64) (x29 : Int32) (ee : x29 = x25) (h : own_A8 F s L x3 x5 x7 x9 x11 x12 x13 x14 x15 x16 x17) (nx : ∀ y3 y5 y7 y9 y11 y14 y15, own_A8 F s L y3 y5 y7 y9 y11 x12 x13 y14 y15 x16 x17 → own_T62 N sg y3 y5 y7 y9 y11 x12 x13 y14 y15 x16 x17 (x18 + 5) s) : own_T575 N sg x3 x5 x7 x9 x11 x12 x13 x14 x15 x16 x17 x18 x20 x25 x26 (-1) x29 s := by
  refine own_e575 N sg F s L x3 x5 x7 x9 x11 x12 x13 x14 x15 x16 x17 x18 x20 x25 x26 (-1) x29 ee ?_ nx
  have l : (-1 : Int32) < 0 := by decide
  simp only [l, if_true]
  exact h
/-- block x28 was written: now it is x26 -/
theorem own_t575 (N : Nat) (sg : Nat → Int32) (F : Nat) (s t : St) (L L' : Nat → Nat → Int32) (x3 x5 x7 x9 : Int64) (x11 x12 x13 x14 x15 x16 x17 x18 x20 x25 : Int32) (x26 : Int64) (x28 x29 : Int32) (y12 y13 : Int32) (ee : x29 = x25) (hs : own_A8 F s L x3 x5 x7 x9 x11 x12 x13 x14 x15 x16 x17) (hb : 0 ≤ x28.toInt ∧ x28.toInt < 4) (hp : x20 = 0 ∨ x20 = 1) (O : own_O 8 F 2 L' t) (hL' : ∀ b, b < 4 → ∀ w : Int32, 0 ≤ w.toInt → w.toInt < 4 → L' b (ix w) = if b = ix x28 then Int64.toInt32 (own_fb x26 w) else L b (ix w)) (h2 : ∀ j, gI t 2 j = if j = ix x28 then 0 else gI s 2 j) (h15 : ∀ j, gI t 15 j = if j = ix x20 then gI s 15 (ix x20) + 1 else gI s 15 j) (h13 : ∀ j, gI t 13 j = gI s 13 j) (e12 : gI t 14 0 = y12) (e13 : gI t 14 1 = y13) (nx : ∀ y3 y5 y7 y9 y11 y14 y15, own_A8 F t L' y3 y5 y7 y9 y11 y12 y13 y14 y15 x16 x17 → own_T62 N sg y3 y5 y7 y9 y11 y12 y13 y14 y15 x16 x17 (x18 + 5) t) : own_T575 N sg x3 x5 x7 x9 x11 y12 y13 x14 x15 x16 x17 x18 x20 x25 x26 x28 x29 t := by
  refine own_e575 N sg F t L' x3 x5 x7 x9 x11 y12 y13 x14 x15 x16 x17 x18 x20 x25 x26 x28 x29 ee ?_ nx
  obtain ⟨O0, hL, hk, hk8, c1, c2, c3, c4, c5, c6⟩ := hs
  have nl : ¬ x28 < 0 := by rw [i32_lt]; simp; omega
  have kb := ix_int hb.1
  simp only [nl, if_false]
  refine ⟨O, fun b b4 w w0 w1 => ?_, fun j hj => ?_, fun j h4 h8 => ?_, e12, e13, ?_, ?_, by rw [h13, c5], by rw [h13, c6]⟩
  · rw [hL' b b4 w w0 w1]
    have e0 : x28 = 0 ↔ ix x28 = 0 := by rw [i32_eq]; simp; omega
    have e1 : x28 = 1 ↔ ix x28 = 1 := by rw [i32_eq]; simp; omega
    have e2 : x28 = 2 ↔ ix x28 = 2 := by rw [i32_eq]; simp; omega
    have hb := hL b b4 w w0 w1
    simp only [e0, e1, e2]
    generalize ix x28 = n at *
    have n4 : n < 4 := by omega
    unfold own_pk at *
    have cb : b = 0 ∨ b = 1 ∨ b = 2 ∨ b = 3 := by omega
    have cn : n = 0 ∨ n = 1 ∨ n = 2 ∨ n = 3 := by omega
    rcases cb with rfl | rfl | rfl | rfl <;> rcases cn with rfl | rfl | rfl | rfl <;> simp at hb ⊢ <;> exact hb
  · rw [own_bt_or x11 x28 hb.1 (by omega) j (by omega), h2]
    by_cases z : j = ix x28
    · simp [z]
    · simp [z, hk j hj]
  · rw [h2, if_neg (by omega)]; exact hk8 j h4 h8
  · rw [h15]
    rcases hp with e | e <;> subst e
    · simp [ix, c3]
    · have : ix (1 : Int32) = 1 := by decide
      simp [this, c3]
  · rw [h15]
    rcases hp with e | e <;> subst e
    · have : ix (0 : Int32) = 0 := by decide
      simp [this, c4]
    · have : ix (1 : Int32) = 1 := by decide
      simp [this, c4]
/-- write -/
theorem own_w322 (N : Nat) (sg : Nat → Int32) (F : Nat) (s : St) (L : Nat → Nat → Int32) (x3 x5 x7 x9 : Int64) (x11 x12 x13 x14 x15 x16 x17 x18 p b v w e : Int32) (nb : Int64) (hs : own_A8 F s L x3 x5 x7 x9 x11 x12 x13 x14 x15 x16 x17) (hp : p = 0 ∨ p = 1 ∨ p = 2) (hb : (0 ≤ b.toInt ∧ b.toInt < 4) ∨ (8 ≤ b.toInt ∧ b.toInt < 12)) (hw : (0 ≤ w.toInt ∧ w.toInt < 4) ∨ w = 4) (he : e = if p = 2 then -2 else if 3 < b then -3 else 0) (hnb : (0 ≤ b.toInt ∧ b.toInt < 4) → nb = own_pk x3 x5 x7 x9 (ix b)) (nx : ∀ t L' y3 y5 y7 y9 y11 y12 y13 y14 y15 y16 y17, own_A8 F t L' y3 y5 y7 y9 y11 y12 y13 y14 y15 y16 y17 → own_T62 N sg y3 y5 y7 y9 y11 y12 y13 y14 y15 y16 y17 (x18 + 5) t) : own_T322 N sg x3 x5 x7 x9 x11 x12 x13 x14 x15 x16 x17 x18 p b v w e nb (-1) s := by
  have e3 : (3 : Int32).toInt = 3 := by decide
  have hs' := hs
  obtain ⟨O, hL, hk, hk8, c1, c2, c3, c4, c5, c6⟩ := hs'
  apply l0_322
  intro m em
  refine own_6 8 F 2 L s p b w v O _ (fun z => ?_) (fun y z => ?_) (fun y1 y2 z => ?_) fun y1 y2 y3 t O' h2 h15 h1314 => ?_
  · have p2 : p = 2 := by rcases hp with q | q | q <;> subst q <;> first | exact absurd (by decide) z | rfl
    rw [if_pos p2] at he
    have em' : m = -2 := by rw [em, he, if_neg (by decide)]
    refine ⟨fun q => absurd q (by rw [em']; decide), fun _ => own_n575 N sg F s L _ _ _ _ _ _ _ _ _ _ _ _ _ _ _ _ em'.symm hs fun _ _ _ _ _ _ _ h => nx _ _ _ _ _ _ _ _ _ _ _ _ _ h⟩
  · have p2 : p ≠ 2 := fun q => by rw [q] at y; exact absurd y (by decide)
    have b3 : 3 < b := by rw [i32_lt, e3]; omega
    rw [if_neg p2, if_pos b3] at he
    have em' : m = -3 := by rw [em, he, if_neg (by decide)]
    refine ⟨fun q => absurd q (by rw [em']; decide), fun _ => own_n575 N sg F s L _ _ _ _ _ _ _ _ _ _ _ _ _ _ _ _ em'.symm hs fun _ _ _ _ _ _ _ h => nx _ _ _ _ _ _ _ _ _ _ _ _ _ h⟩
  · have p2 : p ≠ 2 := fun q => by rw [q] at y1; exact absurd y1 (by decide)
    have b3 : ¬ 3 < b := by rw [i32_lt, e3]; omega
    have w3 : 3 < w := by
      rcases hw with q | q
      · exact absurd q z
      · rw [q]; decide
    rw [if_neg p2, if_neg b3] at he
    rw [if_pos he, if_pos w3] at em
    refine ⟨fun q => absurd q (by rw [em]; decide), fun _ => own_n575 N sg F s L _ _ _ _ _ _ _ _ _ _ _ _ _ _ _ _ em.symm hs fun _ _ _ _ _ _ _ h => nx _ _ _ _ _ _ _ _ _ _ _ _ _ h⟩
  · have p2 : p ≠ 2 := fun q => by rw [q] at y1; exact absurd y1 (by decide)
    have p01 : p = 0 ∨ p = 1 := by
      rcases hp with q | q | q
      · exact .inl q
      · exact .inr q
      · exact absurd q p2
    have b4 : 0 ≤ b.toInt ∧ b.toInt < 4 := by omega
    have b3 : ¬ 3 < b := by rw [i32_lt, e3]; omega
    have w3 : ¬ 3 < w := by rw [i32_lt, e3]; omega
    rw [if_neg p2, if_neg b3] at he
    rw [if_pos he, if_neg w3, he] at em
    have kb := ix_int b4.1
    have kw := ix_int y3.1
    refine ⟨fun _ => l3W1_in _ _ _ _ _ _ _ ⟨t, rfl, ?_⟩, fun q => absurd em q⟩
    refine own_t575 N sg F s t L _ x3 x5 x7 x9 x11 x12 x13 x14 x15 x16 x17 x18 p m (own_fs nb w v) b 0 x12 x13 em.symm hs b4 p01 O' (fun b' h4 w' w0 w1 => ?_) h2 h15 (fun j => h1314 13 j (.inl rfl)) (by rw [h1314 14 0 (.inr rfl), c1]) (by rw [h1314 14 1 (.inr rfl), c2]) fun _ _ _ _ _ _ _ h => nx _ _ _ _ _ _ _ _ _ _ _ _ _ h
    unfold own_up
    rw [own_fb_set nb w v y3.1 y3.2 w' w0 w1]
    by_cases q : b' = ix b
    · rw [if_pos q]
      by_cases r : w' = w
      · rw [if_pos ⟨q, by rw [r]⟩, if_pos r, own_lo16]
      · rw [if_neg (fun z => r ((ix_inj w0 y3.1).mp z.2)), if_neg r, hnb b4, q]
        exact hL _ (by omega) w' w0 w1
    · rw [if_neg (fun z => q z.1), if_neg q]
theorem own_3bit (x m : Int32) (h28 : m = if (x &&& 28) = 28 then (x &&& 3) + 8 else x &&& 3) : (0 ≤ m.toInt ∧ m.toInt < 4) ∨ (8 ≤ m.toInt ∧ m.toInt < 12) := by
  have k := Jvm.Kit.i32_mask x 3 (k := 2) (by decide) (by decide)
  split at h28
  · have : ((x &&& 3) + 8).toInt = (x &&& 3).toInt + 8 := by rw [i32_add] <;> simp <;> omega
    rw [h28, this]; omega
  · rw [h28]; omega
theorem law_ok (N : Nat) (sg : Nat → Int32) (hN : (N : Int) ≤ (260 : Int32).toInt) : lalI PP QQ (some (N, sg)) 0 [.ref 0] W0 (fun v _ => v = 1) := by
  have e260 : (260 : Int32).toInt = 260 := by decide
  have eN := own_lenN hN
  have e3 : (3 : Int32).toInt = 3 := by decide
  have i0' : ix (0 : Int32) = 0 := by decide
  have i1' : ix (1 : Int32) = 1 := by decide
  have key : ∀ (F : Nat) (n : Nat) (i : Int32) (s : St) (L : Nat → Nat → Int32) (x3 x5 x7 x9 : Int64) (x11 x12 x13 x14 x15 x16 x17 : Int32), 0 ≤ i.toInt → i.toInt + n = N + 7 → own_A8 F s L x3 x5 x7 x9 x11 x12 x13 x14 x15 x16 x17 → own_T62 N sg x3 x5 x7 x9 x11 x12 x13 x14 x15 x16 x17 i s := by
    intro F n
    induction n using Nat.strongRecOn with
    | _ n ih =>
    intro i s L x3 x5 x7 x9 x11 x12 x13 x14 x15 x16 x17 i0 hn hA
    apply l0_62
    have e4 : (i + 4).toInt = i.toInt + 4 := by rw [i32_add] <;> simp <;> omega
    refine ⟨fun a => ⟨fun _ => ?_, fun _ => rfl⟩, fun _ => rfl⟩
    rw [i32_lt, e4, eN] at a
    have e1 : (i + 1).toInt = i.toInt + 1 := by rw [i32_add] <;> simp <;> omega
    have e2 : (i + 2).toInt = i.toInt + 2 := by rw [i32_add] <;> simp <;> omega
    have ee3 : (i + 3).toInt = i.toInt + 3 := by rw [i32_add] <;> simp <;> omega
    have e5 : (i + 5).toInt = i.toInt + 5 := by rw [i32_add] <;> simp <;> omega
    have nx : ∀ t L' y3 y5 y7 y9 y11 y12 y13 y14 y15 y16 y17, own_A8 F t L' y3 y5 y7 y9 y11 y12 y13 y14 y15 y16 y17 → own_T62 N sg y3 y5 y7 y9 y11 y12 y13 y14 y15 y16 y17 (i + 5) t := fun t L' y3 y5 y7 y9 y11 y12 y13 y14 y15 y16 y17 h => ih (n - 5) (by omega) (i + 5) t L' y3 y5 y7 y9 y11 y12 y13 y14 y15 y16 y17 (by omega) (by omega) h
    have nxs : ∀ (t : St) (L' : Nat → Nat → Int32) (y12 y13 y16 y17 : Int32), ∀ y3 y5 y7 y9 y11 y14 y15, own_A8 F t L' y3 y5 y7 y9 y11 y12 y13 y14 y15 y16 y17 → own_T62 N sg y3 y5 y7 y9 y11 y12 y13 y14 y15 y16 y17 (i + 5) t := fun t L' y12 y13 y16 y17 y3 y5 y7 y9 y11 y14 y15 h => nx t L' y3 y5 y7 y9 y11 y12 y13 y14 y15 y16 y17 h
    refine ⟨⟨by omega, by omega⟩, ⟨by omega, by omega⟩, ⟨by omega, by omega⟩, ⟨by omega, by omega⟩, ⟨by omega, by omega⟩, ⟨by omega, by omega⟩, fun p ep => ⟨⟨by omega, by omega⟩, fun b eb => ⟨⟨by omega, by omega⟩, fun d ed w ew e he => ?_⟩⟩⟩
    have hp : p = 0 ∨ p = 1 ∨ p = 2 := by
      have k := Jvm.Kit.i32_mask (sg (ix (i + 1))) 1 (k := 1) (by decide) (by decide)
      split at ep
      · exact .inr (.inr ep)
      · rw [ep]
        rcases (show (sg (ix (i + 1)) &&& 1).toInt = 0 ∨ (sg (ix (i + 1)) &&& 1).toInt = 1 by omega) with q | q
        · exact .inl (by rw [i32_eq, q]; rfl)
        · exact .inr (.inl (by rw [i32_eq, q]; rfl))
    have hb := own_3bit _ _ eb
    have hd := own_3bit _ _ ed
    have hw : (0 ≤ w.toInt ∧ w.toInt < 4) ∨ w = 4 := by
      have k := Jvm.Kit.i32_mask (sg (ix (i + 3))) 3 (k := 2) (by decide) (by decide)
      split at ew
      · exact .inr ew
      · rw [ew]; exact .inl (by omega)
    clear ep eb ed ew
    generalize sg (ix (i + 4)) = v
    have hA' := hA
    obtain ⟨O, hL, hk, hk8, c1, c2, c3, c4, c5, c6⟩ := hA'
    refine own_pick8 N sg s x3 x5 x7 x9 b _ fun nb hnb => ⟨s, rfl, ?_⟩
    have valid : ∀ q : Int32, (q = 0 ∨ q = 1 ∨ q = 2) → ¬ (0 ≤ q.toInt ∧ q.toInt < (2 : Nat)) → q = 2 := fun q h z => by rcases h with y | y | y <;> subst y <;> first | exact absurd (by decide) z | rfl
    have p01 : (0 ≤ p.toInt ∧ p.toInt < (2 : Nat)) → p = 0 ∨ p = 1 := fun y => by
      rcases hp with q | q | q
      · exact .inl q
      · exact .inr q
      · rw [q] at y; exact absurd y (by decide)
    have p2 : (0 ≤ p.toInt ∧ p.toInt < (2 : Nat)) → p ≠ 2 := fun y q => by rw [q] at y; exact absurd y (by decide)
    have b3n : ∀ q : Int32, ((0 ≤ q.toInt ∧ q.toInt < 4) ∨ (8 ≤ q.toInt ∧ q.toInt < 12)) → ¬ (0 ≤ q.toInt ∧ q.toInt < (8 : Nat)) → 3 < q := fun q h z => by rw [i32_lt, e3]; omega
    have b3y : ∀ q : Int32, ((0 ≤ q.toInt ∧ q.toInt < 4) ∨ (8 ≤ q.toInt ∧ q.toInt < 12)) → (0 ≤ q.toInt ∧ q.toInt < (8 : Nat)) → ¬ 3 < q ∧ (0 ≤ q.toInt ∧ q.toInt < 4) := fun q h z => ⟨by rw [i32_lt, e3]; omega, by omega⟩
    have wr := own_w322 N sg F s L x3 x5 x7 x9 x11 x12 x13 x14 x15 x16 x17 i p b v w e nb hA hp hb hw he hnb nx
    refine ⟨fun _ m em => ?_, fun _ => ⟨fun _ => wr, fun _ => ⟨fun _ => wr, fun _ => ⟨fun _ => ?_, fun _ => ⟨fun _ m em => ?_, fun _ => ⟨fun _ => ?_, fun _ => ⟨fun _ m em => ?_, fun _ => ?_⟩⟩⟩⟩⟩⟩⟩
    · -- read
      refine own_5 8 F 2 L s p b w O _ (fun z => ?_) (fun y z => ?_) (fun y1 y2 z => ?_) fun y1 y2 y3 t O' h13 h14 h215 => ?_
      · rw [if_pos (valid p hp z)] at he
        have em' : m = -2 := by rw [em, he, if_neg (by decide)]
        exact ⟨fun q => absurd q (by rw [em']; decide), fun _ => own_n575 N sg F s L _ _ _ _ _ _ _ _ _ _ _ _ _ _ _ _ em'.symm hA (nxs _ _ _ _ _ _)⟩
      · rw [if_neg (p2 y), if_pos (b3n b hb z)] at he
        have em' : m = -3 := by rw [em, he, if_neg (by decide)]
        exact ⟨fun q => absurd q (by rw [em']; decide), fun _ => own_n575 N sg F s L _ _ _ _ _ _ _ _ _ _ _ _ _ _ _ _ em'.symm hA (nxs _ _ _ _ _ _)⟩
      · rw [if_neg (p2 y1), if_neg (b3y b hb y2).1] at he
        have w3 : 3 < w := by
          rcases hw with q | q
          · exact absurd q z
          · rw [q]; decide
        rw [if_pos he, if_pos w3] at em
        exact ⟨fun q => absurd q (by rw [em]; decide), fun _ => own_n575 N sg F s L _ _ _ _ _ _ _ _ _ _ _ _ _ _ _ _ em.symm hA (nxs _ _ _ _ _ _)⟩
      · rw [if_neg (p2 y1), if_neg (b3y b hb y2).1] at he
        have b4 := (b3y b hb y2).2
        have kb := ix_int b4.1
        have w3 : ¬ 3 < w := by rw [i32_lt, e3]; omega
        rw [if_pos he, if_neg w3, he] at em
        have rd : L (ix b) (ix w) = Int64.toInt32 (Jvm.Free.XT.ushrL nb (16 * w) &&& 65535) := by rw [hnb b4]; exact hL _ (by omega) w y3.1 y3.2
        refine ⟨fun _ => l2W1_in _ _ _ _ _ _ ⟨t, rfl, fun m1 f1 m2 f2 m3 f3 m4 f4 => ?_⟩, fun q => absurd em q⟩
        refine own_n575 N sg F t L _ _ _ _ _ _ _ _ _ _ _ _ _ _ _ _ rd ⟨O', hL, fun j hj => by rw [h215 2 j (.inl rfl)]; exact hk j hj, fun j h4 h8 => by rw [h215 2 j (.inl rfl)]; exact hk8 j h4 h8, ?_, ?_, by rw [h215 15 0 (.inr rfl), c3], by rw [h215 15 1 (.inr rfl), c4], ?_, ?_⟩ (nxs _ _ _ _ _ _)
        · rw [h14, f1]
          rcases p01 y1 with q | q <;> subst q <;> simp [i0', i1', c1, c2]
        · rw [h14, f2]
          rcases p01 y1 with q | q <;> subst q <;> simp [i0', i1', c1, c2]
        · rw [h13, f3, ← rd]
          rcases p01 y1 with q | q <;> subst q <;> simp [i0', i1', c5, c6]
        · rw [h13, f4, ← rd]
          rcases p01 y1 with q | q <;> subst q <;> simp [i0', i1', c5, c6]
    · -- fill
      refine own_7 8 F 2 L s p b v O _ (fun z => ?_) (fun y z => ?_) fun y1 y2 t O' h2 h15 h1314 => ?_
      · rw [if_pos (valid p hp z)] at he
        intro m1 f1 m2 f2
        rw [if_neg (by rw [he]; decide)] at f1 f2
        subst f1 f2
        exact own_n575 N sg F s L _ _ _ _ _ _ _ _ _ _ _ _ _ _ _ _ he.symm hA (nxs _ _ _ _ _ _)
      · rw [if_neg (p2 y), if_pos (b3n b hb z)] at he
        intro m1 f1 m2 f2
        rw [if_neg (by rw [he]; decide)] at f1 f2
        subst f1 f2
        exact own_n575 N sg F s L _ _ _ _ _ _ _ _ _ _ _ _ _ _ _ _ he.symm hA (nxs _ _ _ _ _ _)
      · rw [if_neg (p2 y1), if_neg (b3y b hb y2).1] at he
        have b4 := (b3y b hb y2).2
        have kb := ix_int b4.1
        intro m1 f1 m2 f2
        rw [if_pos he] at f1 f2
        subst f2
        refine own_t575 N sg F s t L _ x3 x5 x7 x9 x11 x12 x13 x14 x15 x16 x17 i p e m1 m2 0 x12 x13 he.symm hA b4 (p01 y1) O' (fun b' h4 w' w0 w1 => ?_) h2 h15 (fun j => h1314 13 j (.inl rfl)) (by rw [h1314 14 0 (.inr rfl), c1]) (by rw [h1314 14 1 (.inr rfl), c2]) (nxs _ _ _ _ _ _)
        unfold own_fl
        have ff : own_fb m1 w' = Int32.toInt64 v &&& 65535 := by rw [f1]; exact own_fb_f4 v w' w0 w1
        rw [ff, own_lo16]
    · -- copyBlock
      refine own_8 8 F 2 L s p b d O _ (fun z => ?_) (fun y z => ?_) (fun y y' z => ?_) fun y1 y2 y3 t O' h2 h14 h15 h13 => ?_
      · rw [if_pos (valid p hp z)] at he
        have em' : m = -2 := by rw [em, he, if_neg (by decide)]
        intro m1 f1 m2 f2 m3 f3
        rw [if_neg (by rw [em']; decide)] at f1 f2 f3
        subst f1 f2 f3
        exact own_n575 N sg F s L _ _ _ _ _ _ _ _ _ _ _ _ _ _ _ _ em'.symm hA (nxs _ _ _ _ _ _)
      · rw [if_neg (p2 y), if_pos (b3n b hb z)] at he
        have em' : m = -3 := by rw [em, he, if_neg (by decide)]
        intro m1 f1 m2 f2 m3 f3
        rw [if_neg (by rw [em']; decide)] at f1 f2 f3
        subst f1 f2 f3
        exact own_n575 N sg F s L _ _ _ _ _ _ _ _ _ _ _ _ _ _ _ _ em'.symm hA (nxs _ _ _ _ _ _)
      · rw [if_neg (p2 y), if_neg (b3y b hb y').1] at he
        rw [if_pos he, if_pos (b3n d hd z)] at em
        intro m1 f1 m2 f2 m3 f3
        rw [if_neg (by rw [em]; decide)] at f1 f2 f3
        subst f1 f2 f3
        exact own_n575 N sg F s L _ _ _ _ _ _ _ _ _ _ _ _ _ _ _ _ em.symm hA (nxs _ _ _ _ _ _)
      · rw [if_neg (p2 y1), if_neg (b3y b hb y2).1] at he
        rw [if_pos he, if_neg (b3y d hd y3).1, he] at em
        have b4 := (b3y b hb y2).2
        have d4 := (b3y d hd y3).2
        have kb := ix_int b4.1
        have kd := ix_int d4.1
        intro m1 f1 m2 f2 m3 f3
        rw [if_pos em] at f1 f2 f3
        subst f3
        refine own_t575 N sg F s t L _ x3 x5 x7 x9 x11 x12 x13 x14 x15 x16 x17 i p m nb m3 0 m1 m2 em.symm hA d4 (p01 y1) O' (fun b' h4 w' w0 w1 => ?_) h2 h15 h13 ?_ ?_ (nxs _ _ _ _ _ _)
        · unfold own_fl
          have : Int64.toInt32 (own_fb nb w') = L (ix b) (ix w') := by rw [hnb b4]; exact (hL _ (by omega) w' w0 w1).symm
          rw [this]
        · rw [h14, f1]
          rcases p01 y1 with q | q <;> subst q <;> simp [i0', i1', c1, c2]
        · rw [h14, f2]
          rcases p01 y1 with q | q <;> subst q <;> simp [i0', i1', c1, c2]
    · -- step
      refine own_9 8 F 2 L s v O _ fun t O' tc => ?_
      exact own_n575 N sg F t L _ _ _ _ _ _ _ _ _ _ _ _ _ _ _ _ rfl ⟨O', hL, fun j hj => by rw [tc 2 j (by omega)]; exact hk j hj, fun j h4 h8 => by rw [tc 2 j (by omega)]; exact hk8 j h4 h8, by rw [tc 14 0 (by omega), c1], by rw [tc 14 1 (by omega), c2], by rw [tc 15 0 (by omega), c3], by rw [tc 15 1 (by omega), c4], by rw [tc 13 0 (by omega), c5], by rw [tc 13 1 (by omega), c6]⟩ (nxs _ _ _ _ _ _)
    · -- syncBlock
      refine own_10 8 F 2 L s b O _ (fun z => ?_) fun y t O' h2 tc => ?_
      · rw [if_pos (b3n b hb z)] at em
        apply l0_545
        intro m1 f1
        rw [if_neg (by rw [em]; decide)] at f1
        subst f1
        exact own_n575 N sg F s L _ _ _ _ _ _ _ _ _ _ _ _ _ _ _ _ em.symm hA (nxs _ _ _ _ _ _)
      · rw [if_neg (b3y b hb y).1] at em
        have b4 := (b3y b hb y).2
        have kb := ix_int b4.1
        apply l0_545
        intro m1 f1
        rw [if_pos em] at f1
        refine own_n575 N sg F t L _ _ _ _ _ _ _ _ _ _ _ _ _ _ _ _ em.symm ⟨O', hL, fun j hj => ?_, fun j h4 h8 => ?_, by rw [tc 14 0 (by omega), c1], by rw [tc 14 1 (by omega), c2], by rw [tc 15 0 (by omega), c3], by rw [tc 15 1 (by omega), c4], by rw [tc 13 0 (by omega), c5], by rw [tc 13 1 (by omega), c6]⟩ (nxs _ _ _ _ _ _)
        · rw [f1, own_bt_clr x11 b b4.1 (by omega) j (by omega), h2]
          by_cases z : j = ix b
          · simp [z]
          · simp [z, hk j hj]
        · rw [h2]; split
          · decide
          · exact hk8 j h4 h8
    · -- sync
      refine own_11 8 F 2 L s O _ fun t O' h2 tc => ?_
      exact own_n575 N sg F t L _ _ _ _ _ _ _ _ _ _ _ _ _ _ _ _ rfl ⟨O', hL, fun j hj => by rw [h2 j (by omega), own_bt_0]; simp, fun j h4 h8 => by rw [h2 j (by omega)]; decide, by rw [tc 14 0 (by omega), c1], by rw [tc 14 1 (by omega), c2], by rw [tc 15 0 (by omega), c3], by rw [tc 15 1 (by omega), c4], by rw [tc 13 0 (by omega), c5], by rw [tc 13 1 (by omega), c6]⟩ (nxs _ _ _ _ _ _)
  have st : ∀ y : Int32, wplI PP QQ (some (N, sg)) 0 lm0 20 [some (.ref 0), some (.int 0), none, none, none, none, none, none, none, none, none, none, none, none, none, none, none, none, none, none, none, none, none, none, none, none, none, none, none, none, none, none] [.int y, .int 8, .ref 1, .ref 1] W0p (fun v _ => v = 1) := by
    intro y
    apply l0_20
    refine own_0 8 y 2 _ fun B F P S eB eF eP O s2 s13 s14 s15 => ?_
    have eB : B = 8 := by
      have : (if (8 : Int32) < 8 then (8 : Int32) else if 32 < (8 : Int32) then 32 else 8).toInt = 8 := by decide
      omega
    have eP : P = 2 := by
      have : (if (2 : Int32) < 1 then (1 : Int32) else if 4 < (2 : Int32) then 4 else 2).toInt = 2 := by decide
      omega
    subst eB eP
    refine key F (N + 6) 1 S _ 0 0 0 0 0 0 0 0 0 (-5) (-5) (by decide) (by show (1 : Int) + _ = _; omega) ⟨O, fun b b4 w w0 w1 => ?_, fun j hj => by rw [s2 j (by omega), own_bt_0]; simp, fun j h4 h8 => by rw [s2 j (by omega)]; decide, s14 0, s14 1, s15 0, s15 1, s13 0 (by decide), s13 1 (by decide)⟩
    have z : own_fb (own_pk 0 0 0 0 b) w = 0 := by
      have : own_pk 0 0 0 0 b = 0 := by unfold own_pk; split <;> (try rfl); split <;> (try rfl); split <;> rfl
      rw [this]
      apply own_bl_ext
      intro j hj
      rw [own_fb_bit _ _ w0 w1 j hj]
      simp [own_bl]
    rw [z]; rfl
  apply l0_in
  refine ⟨fun q => ⟨⟨by decide, ?_⟩, st _⟩, fun _ => st _⟩
  rw [i32_lt, eN] at q; simpa using q
theorem comes_1 {Post : Tables → Env → Array Value → State → Outcome → State → Prop} (hpost : ∀ tb e args s v u, (limb_1_1.after args s (.returned v) u = true ∧ limb_1_2.after args s (.returned v) u = true ∧ True) → FrameEnd s (.returned v) u (Jvm.fieldLocs frame_1_writes args s ++ Jvm.arrayLocs frame_1_arrays args s ++ Jvm.staticLocs frame_1_statics s) 48 768 → Post tb e args s (.returned v) u) :
    ArmFor flags0 classFile x code maxLocals ret World_1 tables_1 room_1 Calls_1 rest_1 Pre_1 Post := by
  intro l hfl _ _ p e ha hc hk s m args below hf hA hF happ hP
  obtain ⟨hcalls, hrest, hpre⟩ := hP
  obtain ⟨-, -, -, hnamed, -, -, -, hat⟩ := (Spec.applies_iff hf).mp happ
  obtain ⟨hg, hn⟩ := and_e (Cond.before_iff.mp (show (Jvm.Cond.and given_1 narrow_1).before args s = true from hpre))
  obtain ⟨h1, g0⟩ := and_e hg
  obtain ⟨w0, rfl⟩ : ∃ w0 : Value, args = #[w0] := by
    have hs : args.size = 1 := by simpa [Cond.value, given_1] using h1
    obtain ⟨L⟩ := args
    match L, hs with
    | [w0], _ => exact ⟨w0, rfl⟩
  have hw := fun d (hd : d ∈ tables_1) => atoms_spec (ws := Jvm.Cond.code x code maxLocals ret :: tables_1) hat d (List.mem_cons_of_mem _ hd)
  have hfit : Fit s := fun {y c} hc i hi => by
    obtain ⟨ha, rfl⟩ := Array.getElem?_eq_some_iff.mp hc
    have q := List.all_eq_true.mp ((Array.all_eq_true_iff_forall_mem.mp hF) _ (Array.getElem_mem ha)) i (List.mem_range.mpr hi)
    simpa [Array.getElem?_eq_getElem hi] using q
  obtain ⟨hn1, hn2⟩ := and_e hn
  obtain ⟨a, ea⟩ := arr_v hn1
  obtain rfl : w0 = .ref a := Option.some.inj ea
  obtain ⟨cl, A⟩ := Arr.start ea hn1
  obtain ⟨⟨-, hN⟩, hS⟩ := script_of hfit A ea hn2
  obtain ⟨f, w0, hr⟩ := law_run (law_ok cl.slots.size (fun i => match cl.slots[i]? with | some (.int x) => x | _ => 0) hN) (me := lm0) rfl
  have M : MetFree l x (head1 (Jvm.Cond.code x code maxLocals ret :: tables_1) room_1) (fun b U => b = #[.ref a] ∧ s.Warmed39 U.vm ∧ U.heap = s.heap) (fun _ _ _ _ _ => True) (fun _ U o U' => ∃ u L, o = .returned u ∧ (u = some (.int 1) ∧ Fr s.heap.size L) ∧ FrameEnd U o U' L 48 768) :=
    law_met (lkC s _ hw) (lkL s _ hw) (sc := some (cl.slots.size, fun i => match cl.slots[i]? with | some (.int x) => x | _ => 0)) (a := a) (me := lm0) rfl l (bytes := code) (chk_ok dk_l0) (as := [.ref 0]) rfl (Nat.le_of_ble_eq_true rfl) hr hS
  obtain ⟨n, o, h1, h2, h3, _, L, rfl, ⟨rfl, N⟩, hq⟩ := M p e ha hc hk s m _ below hf ((Spec.applies_iff_loose hf).mp happ).1 ⟨rfl, State.Warmed39.refl s, rfl⟩ trivial
  refine ⟨n, _, h1, h2, h3, hpost _ _ _ _ _ _ ⟨Cond.after_iff.mpr rfl, Cond.after_iff.mpr (eq_i res_at (Term.int_eval (1)) rfl), trivial⟩ ⟨hq.1, hq.2.1, (hq.2.2.sift fun y hy => Or.inr (N y hy)).mono (by decide) (by decide)⟩⟩
theorem main_1_1 : Claimed_1_1 := comes_1 fun _ _ _ _ _ _ h hF => ⟨h.1, hF⟩
theorem main_1_2 : Claimed_1_2 := comes_1 fun _ _ _ _ _ _ h hF => ⟨h.2.1, hF⟩
end Jvm.Pilot.@@N@@
namespace Jvm.Pilot.@@N@@
open Jvm Jvm.ClassFile Sem Op Lib Jvm.Free Jvm.Stand Jvm.Pilot.@@N@@.Jvm.D
/-! MADE BY PROGRAM (witnessworld.py) out of the Statement's table words and the real class files: 11 classes; the members and pool entries that the words name. The judged class is class 1, her method 5. -/
namespace start1
open Jvm.ClassFile
def u (s : String) : CpInfo := .utf8 (stringToUtf16 s)
/-- a pool by its gaps: so many unusable entries, then the entry; so many at the end -/
def gap : Nat → List CpInfo → List CpInfo
  | 0, r => r
  | n + 1, r => .unusable :: gap n r
def poolList (es : List (Nat × CpInfo)) (last : Nat) : List CpInfo := es.foldr (fun e r => gap e.1 (e.2 :: r)) (gap last [])
def pool (es : List (Nat × CpInfo)) (last : Nat) : Array CpInfo := ⟨poolList es last⟩
def fileOf (pool : Array CpInfo) (this : Nat) (attrs : Array Attribute := #[]) (ms : Array MethodInfo := #[]) (fl : Nat := 33) (sup : Nat := 0) (ifs : Array Nat := #[]) (fds : Array FieldInfo := #[]) : ClassFile where
  minorVersion := 0
  majorVersion := 65
  constantPool := pool
  accessFlags := fl
  thisClass := this
  superClass := sup
  interfaces := ifs
  fields := fds
  methods := ms
  attributes := attrs
def plain (name : String) (sup : Option ClassId) : Class where
  name := name
  kind := .ordinary
  loader := none
  accessFlags := 33
  super := sup
  interfaces := #[]
  cf := none
  fields := #[]
  methods := #[]
  instanceTypes := #[]
  staticTypes := #[]
  resolved := #[]
  callSites := []
  init := .initialized
  statics := none
  mirror := none

def pool0 : Array CpInfo := pool [(5, u "<init>"), (0, u "()V"), (1, .class_ 10), (1, u "java/lang/Object")] 113

def k0c0 : Code := { maxStack := 0, maxLocals := 1, code := object_method_1_code, exceptionTable := #[], attributes := #[] }
def k0m0 : Method := { name := "<init>", desc := "()V", sig := { parameters := [], returnType := none }, accessFlags := 1, code := some k0c0 }
/-- java/lang/Object -/
def k0 : Class := { plain "java/lang/Object" none with
  accessFlags := 33
  interfaces := #[]
  cf := some (fileOf pool0 8 #[] #[{ accessFlags := 1, nameIndex := 5, descriptorIndex := 6, attributes := #[] }] 33 0 #[] #[])
  fields := #[]
  methods := #[k0m0]
  instanceTypes := #[]
  staticTypes := #[]
  resolved := Array.replicate 124 none
  statics := none }

def pool1 : Array CpInfo := pool [(2, .class_ 4), (1, u "java/lang/Object"), (0, u "<init>"), (0, u "()V"), (0, .long 65535), (1, .long 18446744073709551615), (1, .methodref 12 13), (0, .class_ 14), (0, .nameAndType 15 16), (0, u "BlockBufferCacheL6"), (0, u "pick"), (0, u "(JJJJI)J"), (0, .methodref 18 19), (0, .class_ 20), (0, .nameAndType 21 22), (0, u "BlockBufferCache"), (0, u "blockSum"), (0, u "(I)I"), (0, .methodref 12 24), (0, .nameAndType 25 26), (0, u "get"), (0, u "(JI)I"), (0, .methodref 18 28), (0, .nameAndType 29 30), (0, u "diskWord"), (0, u "(II)I"), (0, .methodref 18 32), (0, .nameAndType 33 34), (0, u "unsyncedCount"), (0, u "()I"), (0, .methodref 18 36), (0, .nameAndType 5 37), (0, u "(III)V"), (0, .methodref 18 39), (0, .nameAndType 40 41), (0, u "read"), (0, u "(III)I"), (0, .methodref 18 43), (0, .nameAndType 44 45), (0, u "write"), (0, u "(IIII)I"), (0, .methodref 12 47), (0, .nameAndType 48 49), (0, u "put"), (0, u "(JII)J"), (0, .methodref 18 51), (0, .nameAndType 52 41), (0, u "fill"), (0, .methodref 18 54), (0, .nameAndType 55 41), (0, u "copyBlock"), (0, .methodref 18 57), (0, .nameAndType 58 59), (0, u "step"), (0, u "(I)V"), (0, .methodref 18 61), (0, .nameAndType 62 22), (0, u "syncBlock"), (0, .methodref 18 64), (0, .nameAndType 65 6), (0, u "sync"), (0, .methodref 12 67), (0, .nameAndType 68 69), (0, u "agree"), (0, u "(LBlockBufferCache;JJJJI)Z"), (0, .methodref 18 71), (0, .nameAndType 72 22), (0, u "readCount"), (0, .methodref 18 74), (0, .nameAndType 75 22), (0, u "writeCount"), (0, .methodref 18 77), (0, .nameAndType 78 22), (0, u "lastRead"), (3, u "law"), (0, u "([I)Z")] 4

def k1m0 : Method := { name := "<init>", desc := "()V", sig := { parameters := [], returnType := none }, accessFlags := 1, code := none }
def k1c1 : Code := { maxStack := 4, maxLocals := 3, code := method_2_code, exceptionTable := #[], attributes := #[] }
def k1m1 : Method := { name := "get", desc := "(JI)I", sig := { parameters := [.long, .int], returnType := some .int }, accessFlags := 10, code := some k1c1 }
def k1c2 : Code := { maxStack := 6, maxLocals := 4, code := method_3_code, exceptionTable := #[], attributes := #[] }
def k1m2 : Method := { name := "put", desc := "(JII)J", sig := { parameters := [.long, .int, .int], returnType := some .long }, accessFlags := 10, code := some k1c2 }
def k1c3 : Code := { maxStack := 2, maxLocals := 9, code := method_4_code, exceptionTable := #[], attributes := #[] }
def k1m3 : Method := { name := "pick", desc := "(JJJJI)J", sig := { parameters := [.long, .long, .long, .long, .int], returnType := some .long }, accessFlags := 10, code := some k1c3 }
def k1c4 : Code := { maxStack := 9, maxLocals := 17, code := method_5_code, exceptionTable := #[], attributes := #[] }
def k1m4 : Method := { name := "agree", desc := "(LBlockBufferCache;JJJJI)Z", sig := { parameters := [(.object "BlockBufferCache"), .long, .long, .long, .long, .int], returnType := some .boolean }, accessFlags := 10, code := some k1c4 }
def k1c5 : Code := { maxStack := 10, maxLocals := 32, code := code, exceptionTable := #[], attributes := #[] }
def k1m5 : Method := { name := "law", desc := "([I)Z", sig := { parameters := [(.array .int)], returnType := some .boolean }, accessFlags := 9, code := some k1c5 }
/-- BlockBufferCacheL6 -/
def k1 : Class := { plain "BlockBufferCacheL6" (some 0) with
  accessFlags := 33
  interfaces := #[]
  cf := some (fileOf pool1 12 #[] #[{ accessFlags := 1, nameIndex := 5, descriptorIndex := 6, attributes := #[] }, { accessFlags := 10, nameIndex := 25, descriptorIndex := 26, attributes := #[] }, { accessFlags := 10, nameIndex := 48, descriptorIndex := 49, attributes := #[] }, { accessFlags := 10, nameIndex := 15, descriptorIndex := 16, attributes := #[] }, { accessFlags := 10, nameIndex := 68, descriptorIndex := 69, attributes := #[] }, { accessFlags := 9, nameIndex := 82, descriptorIndex := 83, attributes := #[] }] 33 2 #[] #[])
  fields := #[]
  methods := #[k1m0, k1m1, k1m2, k1m3, k1m4, k1m5]
  instanceTypes := #[]
  staticTypes := #[]
  resolved := Array.replicate 88 none
  statics := none }

def pool2 : Array CpInfo := pool [(1, .methodref 2 3), (0, .class_ 4), (0, .nameAndType 5 6), (0, u "java/lang/Object"), (0, u "<init>"), (0, u "()V"), (0, .fieldref 8 9), (0, .class_ 10), (0, .nameAndType 11 12), (0, u "BlockBufferCache"), (0, u "disk"), (0, u "[I"), (0, .fieldref 8 14), (0, .nameAndType 15 16), (0, u "known"), (0, u "[Z"), (0, .fieldref 8 18), (0, .nameAndType 19 12), (0, u "bufData"), (0, .fieldref 8 21), (0, .nameAndType 22 12), (0, u "bufBlock"), (0, .fieldref 8 24), (0, .nameAndType 25 16), (0, u "valid"), (0, .fieldref 8 27), (0, .nameAndType 28 16), (0, u "dirty"), (0, .fieldref 8 30), (0, .nameAndType 31 16), (0, u "busy"), (0, .fieldref 8 33), (0, .nameAndType 34 16), (0, u "held"), (0, .fieldref 8 36), (0, .nameAndType 37 12), (0, u "lastUse"), (0, .fieldref 8 39), (0, .nameAndType 40 12), (0, u "qBuf"), (0, .fieldref 8 42), (0, .nameAndType 43 12), (0, u "qBlock"), (0, .fieldref 8 45), (0, .nameAndType 46 16), (0, u "qWrite"), (0, .fieldref 8 48), (0, .nameAndType 49 12), (0, u "last"), (0, .fieldref 8 51), (0, .nameAndType 52 12), (0, u "reads"), (0, .fieldref 8 54), (0, .nameAndType 55 12), (0, u "writes"), (0, .fieldref 8 57), (0, .nameAndType 58 12), (0, u "waitBuf"), (0, .methodref 8 60), (0, .nameAndType 61 62), (0, u "clamp"), (0, u "(III)I"), (0, .fieldref 8 64), (0, .nameAndType 65 66), (0, u "nBlocks"), (0, u "I"), (0, .fieldref 8 68), (0, .nameAndType 69 66), (0, u "nBufs"), (0, .fieldref 8 71), (0, .nameAndType 72 66), (0, u "nProcs"), (0, .fieldref 8 74), (0, .nameAndType 75 66), (0, u "tick"), (0, .fieldref 8 77), (0, .nameAndType 78 66), (0, u "qLen"), (0, .fieldref 8 80), (0, .nameAndType 81 66), (0, u "head"), (0, .methodref 8 83), (0, .nameAndType 84 85), (0, u "badProc"), (0, u "(I)Z"), (0, .methodref 8 87), (0, .nameAndType 88 85), (0, u "badBlock"), (0, .methodref 8 90), (0, .nameAndType 91 85), (0, u "badWord"), (0, .methodref 8 93), (0, .nameAndType 94 95), (0, u "getBlock"), (0, u "(IIZ)I"), (0, .methodref 8 97), (0, .nameAndType 98 62), (0, u "loadWord"), (0, .methodref 8 100), (0, .nameAndType 101 102), (0, u "release"), (0, u "(I)V"), (0, .integer 65535), (0, .methodref 8 105), (0, .nameAndType 106 107), (0, u "storeWord"), (0, u "(IIII)V"), (0, .methodref 8 109), (0, .nameAndType 110 102), (0, u "markDirty"), (0, .methodref 8 112), (0, .nameAndType 113 102), (0, u "markFull"), (0, .methodref 8 115), (0, .nameAndType 116 107), (0, u "copyBetween"), (0, .methodref 8 118), (0, .nameAndType 119 120), (0, u "interrupt"), (0, u "()Z"), (0, .methodref 8 122), (0, .nameAndType 123 124), (0, u "findBuf"), (0, u "(I)I"), (0, .methodref 8 126), (0, .nameAndType 127 128), (0, u "waitBuffer"), (0, u "(II)V"), (0, .methodref 8 130), (0, .nameAndType 131 132), (0, u "enqueue"), (0, u "(IIZ)Z"), (0, .methodref 8 134), (0, .nameAndType 135 6), (0, u "drain"), (0, .methodref 8 137), (0, .nameAndType 138 139), (0, u "peekWord"), (0, u "(II)I"), (0, .methodref 8 141), (0, .nameAndType 142 85), (0, u "goodBuf"), (0, .methodref 8 144), (0, .nameAndType 145 146), (0, u "allocate"), (0, u "()I"), (0, .methodref 8 148), (0, .nameAndType 149 102), (0, u "touch"), (0, .methodref 8 151), (0, .nameAndType 152 146), (0, u "lruFree"), (0, .methodref 8 154), (0, .nameAndType 155 146), (0, u "pickNext"), (0, .methodref 8 157), (0, .nameAndType 158 102), (0, u "removeAt"), (0, .methodref 8 160), (0, .nameAndType 161 162), (0, u "transfer"), (0, u "(IIZ)V"), (0, .methodref 8 164), (0, .nameAndType 165 102), (0, u "wake"), (0, u "WORDS"), (2, u "OK"), (1, u "UNKNOWN"), (1, u "ERR_PROC"), (1, u "ERR_BLOCK"), (1, u "ERR_WORD"), (1, u "NONE"), (1, u "MAX_BLOCKS"), (1, u "MAX_BUFS"), (1, u "MAX_PROCS"), (0, u "QUEUE_CAP"), (1, u "LOOP_LIMIT"), (1, u "MASK"), (0, u "(III)V"), (6, u "read"), (0, u "write"), (0, u "(IIII)I"), (0, u "fill"), (0, u "copyBlock"), (0, u "step"), (0, u "syncBlock"), (0, u "sync"), (0, u "diskWord"), (0, u "unsyncedCount"), (0, u "blockSum"), (0, u "lastRead"), (0, u "readCount"), (0, u "writeCount")] 2

def k2c0 : Code := { maxStack := 5, maxLocals := 5, code := prog_1_method_1_code, exceptionTable := #[], attributes := #[] }
def k2m0 : Method := { name := "<init>", desc := "(III)V", sig := { parameters := [.int, .int, .int], returnType := none }, accessFlags := 1, code := some k2c0 }
def k2c1 : Code := { maxStack := 4, maxLocals := 6, code := prog_1_method_5_code, exceptionTable := #[], attributes := #[] }
def k2m1 : Method := { name := "read", desc := "(III)I", sig := { parameters := [.int, .int, .int], returnType := some .int }, accessFlags := 1, code := some k2c1 }
def k2c2 : Code := { maxStack := 6, maxLocals := 6, code := prog_1_method_6_code, exceptionTable := #[], attributes := #[] }
def k2m2 : Method := { name := "write", desc := "(IIII)I", sig := { parameters := [.int, .int, .int, .int], returnType := some .int }, accessFlags := 1, code := some k2c2 }
def k2c3 : Code := { maxStack := 5, maxLocals := 7, code := prog_1_method_7_code, exceptionTable := #[], attributes := #[] }
def k2m3 : Method := { name := "fill", desc := "(III)I", sig := { parameters := [.int, .int, .int], returnType := some .int }, accessFlags := 1, code := some k2c3 }
def k2c4 : Code := { maxStack := 5, maxLocals := 5, code := prog_1_method_8_code, exceptionTable := #[], attributes := #[] }
def k2m4 : Method := { name := "copyBlock", desc := "(III)I", sig := { parameters := [.int, .int, .int], returnType := some .int }, accessFlags := 1, code := some k2c4 }
def k2c5 : Code := { maxStack := 4, maxLocals := 4, code := prog_1_method_9_code, exceptionTable := #[], attributes := #[] }
def k2m5 : Method := { name := "step", desc := "(I)V", sig := { parameters := [.int], returnType := none }, accessFlags := 1, code := some k2c5 }
def k2c6 : Code := { maxStack := 4, maxLocals := 3, code := prog_1_method_10_code, exceptionTable := #[], attributes := #[] }
def k2m6 : Method := { name := "syncBlock", desc := "(I)I", sig := { parameters := [.int], returnType := some .int }, accessFlags := 1, code := some k2c6 }
def k2c7 : Code := { maxStack := 4, maxLocals := 3, code := prog_1_method_11_code, exceptionTable := #[], attributes := #[] }
def k2m7 : Method := { name := "sync", desc := "()V", sig := { parameters := [], returnType := none }, accessFlags := 1, code := some k2c7 }
def k2c8 : Code := { maxStack := 3, maxLocals := 3, code := prog_1_method_12_code, exceptionTable := #[], attributes := #[] }
def k2m8 : Method := { name := "diskWord", desc := "(II)I", sig := { parameters := [.int, .int], returnType := some .int }, accessFlags := 1, code := some k2c8 }
def k2c9 : Code := { maxStack := 2, maxLocals := 3, code := prog_1_method_13_code, exceptionTable := #[], attributes := #[] }
def k2m9 : Method := { name := "unsyncedCount", desc := "()I", sig := { parameters := [], returnType := some .int }, accessFlags := 1, code := some k2c9 }
def k2c10 : Code := { maxStack := 4, maxLocals := 4, code := prog_1_method_14_code, exceptionTable := #[], attributes := #[] }
def k2m10 : Method := { name := "blockSum", desc := "(I)I", sig := { parameters := [.int], returnType := some .int }, accessFlags := 1, code := some k2c10 }
def k2c11 : Code := { maxStack := 2, maxLocals := 2, code := prog_1_method_15_code, exceptionTable := #[], attributes := #[] }
def k2m11 : Method := { name := "lastRead", desc := "(I)I", sig := { parameters := [.int], returnType := some .int }, accessFlags := 1, code := some k2c11 }
def k2c12 : Code := { maxStack := 2, maxLocals := 2, code := prog_1_method_16_code, exceptionTable := #[], attributes := #[] }
def k2m12 : Method := { name := "readCount", desc := "(I)I", sig := { parameters := [.int], returnType := some .int }, accessFlags := 1, code := some k2c12 }
def k2c13 : Code := { maxStack := 2, maxLocals := 2, code := prog_1_method_17_code, exceptionTable := #[], attributes := #[] }
def k2m13 : Method := { name := "writeCount", desc := "(I)I", sig := { parameters := [.int], returnType := some .int }, accessFlags := 1, code := some k2c13 }
def k2c14 : Code := { maxStack := 2, maxLocals := 4, code := prog_1_method_18_code, exceptionTable := #[], attributes := #[] }
def k2m14 : Method := { name := "clamp", desc := "(III)I", sig := { parameters := [.int, .int, .int], returnType := some .int }, accessFlags := 2, code := some k2c14 }
def k2c15 : Code := { maxStack := 2, maxLocals := 2, code := prog_1_method_19_code, exceptionTable := #[], attributes := #[] }
def k2m15 : Method := { name := "badProc", desc := "(I)Z", sig := { parameters := [.int], returnType := some .boolean }, accessFlags := 2, code := some k2c15 }
def k2c16 : Code := { maxStack := 2, maxLocals := 2, code := prog_1_method_20_code, exceptionTable := #[], attributes := #[] }
def k2m16 : Method := { name := "badBlock", desc := "(I)Z", sig := { parameters := [.int], returnType := some .boolean }, accessFlags := 2, code := some k2c16 }
def k2c17 : Code := { maxStack := 2, maxLocals := 2, code := prog_1_method_21_code, exceptionTable := #[], attributes := #[] }
def k2m17 : Method := { name := "badWord", desc := "(I)Z", sig := { parameters := [.int], returnType := some .boolean }, accessFlags := 2, code := some k2c17 }
def k2c18 : Code := { maxStack := 2, maxLocals := 2, code := prog_1_method_22_code, exceptionTable := #[], attributes := #[] }
def k2m18 : Method := { name := "goodBuf", desc := "(I)Z", sig := { parameters := [.int], returnType := some .boolean }, accessFlags := 2, code := some k2c18 }
def k2c19 : Code := { maxStack := 5, maxLocals := 10, code := prog_1_method_23_code, exceptionTable := #[], attributes := #[] }
def k2m19 : Method := { name := "copyBetween", desc := "(IIII)V", sig := { parameters := [.int, .int, .int, .int], returnType := none }, accessFlags := 2, code := some k2c19 }
def k2c20 : Code := { maxStack := 3, maxLocals := 4, code := prog_1_method_24_code, exceptionTable := #[], attributes := #[] }
def k2m20 : Method := { name := "loadWord", desc := "(III)I", sig := { parameters := [.int, .int, .int], returnType := some .int }, accessFlags := 2, code := some k2c20 }
def k2c21 : Code := { maxStack := 3, maxLocals := 5, code := prog_1_method_25_code, exceptionTable := #[], attributes := #[] }
def k2m21 : Method := { name := "storeWord", desc := "(IIII)V", sig := { parameters := [.int, .int, .int, .int], returnType := none }, accessFlags := 2, code := some k2c21 }
def k2c22 : Code := { maxStack := 3, maxLocals := 4, code := prog_1_method_26_code, exceptionTable := #[], attributes := #[] }
def k2m22 : Method := { name := "peekWord", desc := "(II)I", sig := { parameters := [.int, .int], returnType := some .int }, accessFlags := 2, code := some k2c22 }
def k2c23 : Code := { maxStack := 3, maxLocals := 2, code := prog_1_method_27_code, exceptionTable := #[], attributes := #[] }
def k2m23 : Method := { name := "markDirty", desc := "(I)V", sig := { parameters := [.int], returnType := none }, accessFlags := 2, code := some k2c23 }
def k2c24 : Code := { maxStack := 3, maxLocals := 2, code := prog_1_method_28_code, exceptionTable := #[], attributes := #[] }
def k2m24 : Method := { name := "markFull", desc := "(I)V", sig := { parameters := [.int], returnType := none }, accessFlags := 2, code := some k2c24 }
def k2c25 : Code := { maxStack := 3, maxLocals := 2, code := prog_1_method_29_code, exceptionTable := #[], attributes := #[] }
def k2m25 : Method := { name := "release", desc := "(I)V", sig := { parameters := [.int], returnType := none }, accessFlags := 2, code := some k2c25 }
def k2c26 : Code := { maxStack := 3, maxLocals := 2, code := prog_1_method_30_code, exceptionTable := #[], attributes := #[] }
def k2m26 : Method := { name := "touch", desc := "(I)V", sig := { parameters := [.int], returnType := none }, accessFlags := 2, code := some k2c26 }
def k2c27 : Code := { maxStack := 2, maxLocals := 3, code := prog_1_method_31_code, exceptionTable := #[], attributes := #[] }
def k2m27 : Method := { name := "findBuf", desc := "(I)I", sig := { parameters := [.int], returnType := some .int }, accessFlags := 2, code := some k2c27 }
def k2c28 : Code := { maxStack := 4, maxLocals := 5, code := prog_1_method_32_code, exceptionTable := #[], attributes := #[] }
def k2m28 : Method := { name := "getBlock", desc := "(IIZ)I", sig := { parameters := [.int, .int, .boolean], returnType := some .int }, accessFlags := 2, code := some k2c28 }
def k2c29 : Code := { maxStack := 4, maxLocals := 4, code := prog_1_method_33_code, exceptionTable := #[], attributes := #[] }
def k2m29 : Method := { name := "allocate", desc := "()I", sig := { parameters := [], returnType := some .int }, accessFlags := 2, code := some k2c29 }
def k2c30 : Code := { maxStack := 3, maxLocals := 3, code := prog_1_method_34_code, exceptionTable := #[], attributes := #[] }
def k2m30 : Method := { name := "lruFree", desc := "()I", sig := { parameters := [], returnType := some .int }, accessFlags := 2, code := some k2c30 }
def k2c31 : Code := { maxStack := 3, maxLocals := 5, code := prog_1_method_35_code, exceptionTable := #[], attributes := #[] }
def k2m31 : Method := { name := "waitBuffer", desc := "(II)V", sig := { parameters := [.int, .int], returnType := none }, accessFlags := 2, code := some k2c31 }
def k2c32 : Code := { maxStack := 3, maxLocals := 4, code := prog_1_method_36_code, exceptionTable := #[], attributes := #[] }
def k2m32 : Method := { name := "enqueue", desc := "(IIZ)Z", sig := { parameters := [.int, .int, .boolean], returnType := some .boolean }, accessFlags := 2, code := some k2c32 }
def k2c33 : Code := { maxStack := 2, maxLocals := 2, code := prog_1_method_37_code, exceptionTable := #[], attributes := #[] }
def k2m33 : Method := { name := "drain", desc := "()V", sig := { parameters := [], returnType := none }, accessFlags := 2, code := some k2c33 }
def k2c34 : Code := { maxStack := 3, maxLocals := 5, code := prog_1_method_38_code, exceptionTable := #[], attributes := #[] }
def k2m34 : Method := { name := "pickNext", desc := "()I", sig := { parameters := [], returnType := some .int }, accessFlags := 2, code := some k2c34 }
def k2c35 : Code := { maxStack := 5, maxLocals := 3, code := prog_1_method_39_code, exceptionTable := #[], attributes := #[] }
def k2m35 : Method := { name := "removeAt", desc := "(I)V", sig := { parameters := [.int], returnType := none }, accessFlags := 2, code := some k2c35 }
def k2c36 : Code := { maxStack := 4, maxLocals := 5, code := prog_1_method_40_code, exceptionTable := #[], attributes := #[] }
def k2m36 : Method := { name := "interrupt", desc := "()Z", sig := { parameters := [], returnType := some .boolean }, accessFlags := 2, code := some k2c36 }
def k2c37 : Code := { maxStack := 5, maxLocals := 7, code := prog_1_method_41_code, exceptionTable := #[], attributes := #[] }
def k2m37 : Method := { name := "transfer", desc := "(IIZ)V", sig := { parameters := [.int, .int, .boolean], returnType := none }, accessFlags := 2, code := some k2c37 }
def k2c38 : Code := { maxStack := 3, maxLocals := 3, code := prog_1_method_42_code, exceptionTable := #[], attributes := #[] }
def k2m38 : Method := { name := "wake", desc := "(I)V", sig := { parameters := [.int], returnType := none }, accessFlags := 2, code := some k2c38 }
/-- BlockBufferCache -/
def k2 : Class := { plain "BlockBufferCache" (some 0) with
  accessFlags := 49
  interfaces := #[]
  cf := some (fileOf pool2 8 #[] #[{ accessFlags := 1, nameIndex := 5, descriptorIndex := 191, attributes := #[] }, { accessFlags := 1, nameIndex := 198, descriptorIndex := 62, attributes := #[] }, { accessFlags := 1, nameIndex := 199, descriptorIndex := 200, attributes := #[] }, { accessFlags := 1, nameIndex := 201, descriptorIndex := 62, attributes := #[] }, { accessFlags := 1, nameIndex := 202, descriptorIndex := 62, attributes := #[] }, { accessFlags := 1, nameIndex := 203, descriptorIndex := 102, attributes := #[] }, { accessFlags := 1, nameIndex := 204, descriptorIndex := 124, attributes := #[] }, { accessFlags := 1, nameIndex := 205, descriptorIndex := 6, attributes := #[] }, { accessFlags := 1, nameIndex := 206, descriptorIndex := 139, attributes := #[] }, { accessFlags := 1, nameIndex := 207, descriptorIndex := 146, attributes := #[] }, { accessFlags := 1, nameIndex := 208, descriptorIndex := 124, attributes := #[] }, { accessFlags := 1, nameIndex := 209, descriptorIndex := 124, attributes := #[] }, { accessFlags := 1, nameIndex := 210, descriptorIndex := 124, attributes := #[] }, { accessFlags := 1, nameIndex := 211, descriptorIndex := 124, attributes := #[] }, { accessFlags := 2, nameIndex := 61, descriptorIndex := 62, attributes := #[] }, { accessFlags := 2, nameIndex := 84, descriptorIndex := 85, attributes := #[] }, { accessFlags := 2, nameIndex := 88, descriptorIndex := 85, attributes := #[] }, { accessFlags := 2, nameIndex := 91, descriptorIndex := 85, attributes := #[] }, { accessFlags := 2, nameIndex := 142, descriptorIndex := 85, attributes := #[] }, { accessFlags := 2, nameIndex := 116, descriptorIndex := 107, attributes := #[] }, { accessFlags := 2, nameIndex := 98, descriptorIndex := 62, attributes := #[] }, { accessFlags := 2, nameIndex := 106, descriptorIndex := 107, attributes := #[] }, { accessFlags := 2, nameIndex := 138, descriptorIndex := 139, attributes := #[] }, { accessFlags := 2, nameIndex := 110, descriptorIndex := 102, attributes := #[] }, { accessFlags := 2, nameIndex := 113, descriptorIndex := 102, attributes := #[] }, { accessFlags := 2, nameIndex := 101, descriptorIndex := 102, attributes := #[] }, { accessFlags := 2, nameIndex := 149, descriptorIndex := 102, attributes := #[] }, { accessFlags := 2, nameIndex := 123, descriptorIndex := 124, attributes := #[] }, { accessFlags := 2, nameIndex := 94, descriptorIndex := 95, attributes := #[] }, { accessFlags := 2, nameIndex := 145, descriptorIndex := 146, attributes := #[] }, { accessFlags := 2, nameIndex := 152, descriptorIndex := 146, attributes := #[] }, { accessFlags := 2, nameIndex := 127, descriptorIndex := 128, attributes := #[] }, { accessFlags := 2, nameIndex := 131, descriptorIndex := 132, attributes := #[] }, { accessFlags := 2, nameIndex := 135, descriptorIndex := 6, attributes := #[] }, { accessFlags := 2, nameIndex := 155, descriptorIndex := 146, attributes := #[] }, { accessFlags := 2, nameIndex := 158, descriptorIndex := 102, attributes := #[] }, { accessFlags := 2, nameIndex := 119, descriptorIndex := 120, attributes := #[] }, { accessFlags := 2, nameIndex := 161, descriptorIndex := 162, attributes := #[] }, { accessFlags := 2, nameIndex := 165, descriptorIndex := 102, attributes := #[] }] 49 2 #[] #[{ accessFlags := 25, nameIndex := 166, descriptorIndex := 66, attributes := #[] }, { accessFlags := 25, nameIndex := 169, descriptorIndex := 66, attributes := #[] }, { accessFlags := 25, nameIndex := 171, descriptorIndex := 66, attributes := #[] }, { accessFlags := 25, nameIndex := 173, descriptorIndex := 66, attributes := #[] }, { accessFlags := 25, nameIndex := 175, descriptorIndex := 66, attributes := #[] }, { accessFlags := 25, nameIndex := 177, descriptorIndex := 66, attributes := #[] }, { accessFlags := 25, nameIndex := 179, descriptorIndex := 66, attributes := #[] }, { accessFlags := 26, nameIndex := 181, descriptorIndex := 66, attributes := #[] }, { accessFlags := 26, nameIndex := 183, descriptorIndex := 66, attributes := #[] }, { accessFlags := 26, nameIndex := 185, descriptorIndex := 66, attributes := #[] }, { accessFlags := 26, nameIndex := 186, descriptorIndex := 66, attributes := #[] }, { accessFlags := 26, nameIndex := 188, descriptorIndex := 66, attributes := #[] }, { accessFlags := 26, nameIndex := 190, descriptorIndex := 66, attributes := #[] }, { accessFlags := 2, nameIndex := 65, descriptorIndex := 66, attributes := #[] }, { accessFlags := 2, nameIndex := 69, descriptorIndex := 66, attributes := #[] }, { accessFlags := 2, nameIndex := 72, descriptorIndex := 66, attributes := #[] }, { accessFlags := 18, nameIndex := 11, descriptorIndex := 12, attributes := #[] }, { accessFlags := 18, nameIndex := 15, descriptorIndex := 16, attributes := #[] }, { accessFlags := 18, nameIndex := 19, descriptorIndex := 12, attributes := #[] }, { accessFlags := 18, nameIndex := 22, descriptorIndex := 12, attributes := #[] }, { accessFlags := 18, nameIndex := 25, descriptorIndex := 16, attributes := #[] }, { accessFlags := 18, nameIndex := 28, descriptorIndex := 16, attributes := #[] }, { accessFlags := 18, nameIndex := 31, descriptorIndex := 16, attributes := #[] }, { accessFlags := 18, nameIndex := 34, descriptorIndex := 16, attributes := #[] }, { accessFlags := 18, nameIndex := 37, descriptorIndex := 12, attributes := #[] }, { accessFlags := 2, nameIndex := 75, descriptorIndex := 66, attributes := #[] }, { accessFlags := 18, nameIndex := 40, descriptorIndex := 12, attributes := #[] }, { accessFlags := 18, nameIndex := 43, descriptorIndex := 12, attributes := #[] }, { accessFlags := 18, nameIndex := 46, descriptorIndex := 16, attributes := #[] }, { accessFlags := 2, nameIndex := 78, descriptorIndex := 66, attributes := #[] }, { accessFlags := 2, nameIndex := 81, descriptorIndex := 66, attributes := #[] }, { accessFlags := 18, nameIndex := 49, descriptorIndex := 12, attributes := #[] }, { accessFlags := 18, nameIndex := 52, descriptorIndex := 12, attributes := #[] }, { accessFlags := 18, nameIndex := 55, descriptorIndex := 12, attributes := #[] }, { accessFlags := 18, nameIndex := 58, descriptorIndex := 12, attributes := #[] }])
  fields := #[{ name := "WORDS", type := .int, accessFlags := 25, slot := 0, constantValue := 0 }, { name := "OK", type := .int, accessFlags := 25, slot := 1, constantValue := 0 }, { name := "UNKNOWN", type := .int, accessFlags := 25, slot := 2, constantValue := 0 }, { name := "ERR_PROC", type := .int, accessFlags := 25, slot := 3, constantValue := 0 }, { name := "ERR_BLOCK", type := .int, accessFlags := 25, slot := 4, constantValue := 0 }, { name := "ERR_WORD", type := .int, accessFlags := 25, slot := 5, constantValue := 0 }, { name := "NONE", type := .int, accessFlags := 25, slot := 6, constantValue := 0 }, { name := "MAX_BLOCKS", type := .int, accessFlags := 26, slot := 7, constantValue := 0 }, { name := "MAX_BUFS", type := .int, accessFlags := 26, slot := 8, constantValue := 0 }, { name := "MAX_PROCS", type := .int, accessFlags := 26, slot := 9, constantValue := 0 }, { name := "QUEUE_CAP", type := .int, accessFlags := 26, slot := 10, constantValue := 0 }, { name := "LOOP_LIMIT", type := .int, accessFlags := 26, slot := 11, constantValue := 0 }, { name := "MASK", type := .int, accessFlags := 26, slot := 12, constantValue := 0 }, { name := "nBlocks", type := .int, accessFlags := 2, slot := 0, constantValue := 0 }, { name := "nBufs", type := .int, accessFlags := 2, slot := 1, constantValue := 0 }, { name := "nProcs", type := .int, accessFlags := 2, slot := 2, constantValue := 0 }, { name := "disk", type := (.array .int), accessFlags := 18, slot := 3, constantValue := 0 }, { name := "known", type := (.array .boolean), accessFlags := 18, slot := 4, constantValue := 0 }, { name := "bufData", type := (.array .int), accessFlags := 18, slot := 5, constantValue := 0 }, { name := "bufBlock", type := (.array .int), accessFlags := 18, slot := 6, constantValue := 0 }, { name := "valid", type := (.array .boolean), accessFlags := 18, slot := 7, constantValue := 0 }, { name := "dirty", type := (.array .boolean), accessFlags := 18, slot := 8, constantValue := 0 }, { name := "busy", type := (.array .boolean), accessFlags := 18, slot := 9, constantValue := 0 }, { name := "held", type := (.array .boolean), accessFlags := 18, slot := 10, constantValue := 0 }, { name := "lastUse", type := (.array .int), accessFlags := 18, slot := 11, constantValue := 0 }, { name := "tick", type := .int, accessFlags := 2, slot := 12, constantValue := 0 }, { name := "qBuf", type := (.array .int), accessFlags := 18, slot := 13, constantValue := 0 }, { name := "qBlock", type := (.array .int), accessFlags := 18, slot := 14, constantValue := 0 }, { name := "qWrite", type := (.array .boolean), accessFlags := 18, slot := 15, constantValue := 0 }, { name := "qLen", type := .int, accessFlags := 2, slot := 16, constantValue := 0 }, { name := "head", type := .int, accessFlags := 2, slot := 17, constantValue := 0 }, { name := "last", type := (.array .int), accessFlags := 18, slot := 18, constantValue := 0 }, { name := "reads", type := (.array .int), accessFlags := 18, slot := 19, constantValue := 0 }, { name := "writes", type := (.array .int), accessFlags := 18, slot := 20, constantValue := 0 }, { name := "waitBuf", type := (.array .int), accessFlags := 18, slot := 21, constantValue := 0 }]
  methods := #[k2m0, k2m1, k2m2, k2m3, k2m4, k2m5, k2m6, k2m7, k2m8, k2m9, k2m10, k2m11, k2m12, k2m13, k2m14, k2m15, k2m16, k2m17, k2m18, k2m19, k2m20, k2m21, k2m22, k2m23, k2m24, k2m25, k2m26, k2m27, k2m28, k2m29, k2m30, k2m31, k2m32, k2m33, k2m34, k2m35, k2m36, k2m37, k2m38]
  instanceTypes := #[.int, .int, .int, (.array .int), (.array .boolean), (.array .int), (.array .int), (.array .boolean), (.array .boolean), (.array .boolean), (.array .boolean), (.array .int), .int, (.array .int), (.array .int), (.array .boolean), .int, .int, (.array .int), (.array .int), (.array .int), (.array .int)]
  staticTypes := #[.int, .int, .int, .int, .int, .int, .int, .int, .int, .int, .int, .int, .int]
  resolved := Array.replicate 214 none
  statics := none }

def pool3 : Array CpInfo := pool [(1, u "java/lang/Cloneable"), (0, .class_ 1), (0, u "java/lang/Object"), (0, .class_ 3)] 3

/-- java/lang/Cloneable -/
def k3 : Class := { plain "java/lang/Cloneable" (some 0) with
  accessFlags := 1537
  interfaces := #[]
  cf := some (fileOf pool3 2 #[] #[] 1537 4 #[] #[])
  fields := #[]
  methods := #[]
  instanceTypes := #[]
  staticTypes := #[]
  resolved := Array.replicate 8 none
  statics := none }

def pool4 : Array CpInfo := pool [(1, u "java/io/Serializable"), (0, .class_ 1), (0, u "java/lang/Object"), (0, .class_ 3)] 3

/-- java/io/Serializable -/
def k4 : Class := { plain "java/io/Serializable" (some 0) with
  accessFlags := 1537
  interfaces := #[]
  cf := some (fileOf pool4 2 #[] #[] 1537 4 #[] #[])
  fields := #[]
  methods := #[]
  instanceTypes := #[]
  staticTypes := #[]
  resolved := Array.replicate 8 none
  statics := none }

/-- the primitive boolean -/
def k5 : Class := { plain "boolean" none with kind := .primitive 'Z', accessFlags := 0x411 }
/-- [Z -/
def k6 : Class := { plain "[Z" (some 0) with kind := .array 5 .boolean, interfaces := #[3, 4], accessFlags := 1041 }

/-- the primitive byte -/
def k7 : Class := { plain "byte" none with kind := .primitive 'B', accessFlags := 0x411 }
/-- [B -/
def k8 : Class := { plain "[B" (some 0) with kind := .array 7 .byte, interfaces := #[3, 4], accessFlags := 1041 }

/-- the primitive int -/
def k9 : Class := { plain "int" none with kind := .primitive 'I', accessFlags := 0x411 }
/-- [I -/
def k10 : Class := { plain "[I" (some 0) with kind := .array 9 .int, interfaces := #[3, 4], accessFlags := 1041 }

def heap : Heap := #[{ cls := 10, slots := #[.int 1, .int 2, .int 3], vm := .none }]
def classes : Array Class := #[k0, k1, k2, k3, k4, k5, k6, k7, k8, k9, k10]
def interned : List (Array UInt16 × Addr) := []
def slotsUsed : Nat := 3
def theMethod : MethodId := ⟨1, 5⟩
def args0 : Array Value := #[.ref 0]
def aboutOver (below : List Frame) : State where
  vm := { classes := classes, interned := interned.toArray }
  heap := heap
  slotsUsed := slotsUsed
  threads := #[{ frames := .invoking theMethod args0 :: below }]
def below0 : List Frame := [.native { method := ⟨0, 0⟩, args := #[] }]
def about1 : State := aboutOver below0
def p0 : Program := .bare "" "" ""
def e0 : Env := launch0.env 0 0 0
theorem w_frames : about1.frames = Frame.invoking theMethod args0 :: below0 := rfl
set_option maxRecDepth 65536 in
theorem w_args : argsFit about1.vm theMethod args0 = true := by decide +kernel
set_option maxRecDepth 65536 in
theorem w_heap : heapFits about1 = true := by decide +kernel
set_option maxRecDepth 65536 in
theorem w_runnable : about1.curStatus? = some .runnable := by decide +kernel
set_option maxRecDepth 65536 in
theorem w_alone : about1.alone = true := by decide +kernel
set_option maxRecDepth 65536 in
theorem w_named : about1.methodNamed? x = some theMethod := by decide +kernel
set_option maxRecDepth 65536 in
theorem w_hears : about1.hears theMethod below0 = true := by decide +kernel
set_option maxRecDepth 65536 in
theorem w_ripe : about1.ripe theMethod args0 below0 = true := by decide +kernel
theorem w_running : about1.status = .running := rfl
set_option maxRecDepth 65536 in
theorem w_room : about1.hasRoom e0.platform room_1 = true :=
  launch0.hasRoom_least _ room_1 (by decide +kernel) (by decide +kernel) (by decide +kernel) (by decide +kernel) (by decide +kernel) (by decide +kernel)
theorem allAtoms_all (ts : List Jvm.Cond) (a : Array Jvm.Value) (st : Jvm.State) : (allAtoms ts).before a st = ts.all (fun c => c.before a st) := by
  induction ts with
  | nil => rfl
  | cons c t ih =>
    show (Jvm.Cond.and c (allAtoms t)).before a st = _
    rw [Jvm.Cond.before_and, ih, List.all_cons]
def words1 : List Jvm.Cond := Jvm.Cond.code x code maxLocals ret :: tables_1
/-- a 'code' word, met by the world's own term for the bytes: nothing is compared byte by byte -/
theorem code_word {y : MethodName} {bytes : ByteArray} {mx : Nat} {rt : Option FieldType} {a : Array Value} {s : State} {m : MethodId} {meth : Method} {c : Code} (h1 : s.methodNamed? y = some m) (h2 : s.vm.method? m = some meth) (h3 : meth.code = some c) (h4 : c.code = bytes)
    (h5 : (c.maxLocals == mx && c.exceptionTable.isEmpty && decide (c.maxStack ≤ mostOperands) && decide (meth.sig.returnType = rt) && !meth.locks && decide (parseMethodDescriptor y.desc = some meth.sig)) = true) : (Jvm.Cond.code y bytes mx rt).before a s = true := by
  simp only [Bool.and_eq_true, beq_iff_eq, Bool.not_eq_true', decide_eq_true_eq] at h5
  obtain ⟨⟨⟨⟨⟨g1, g2⟩, g3⟩, g4⟩, g5⟩, g6⟩ := h5
  simp [Cond.before, Cond.holds, Cond.value, h1, h2, h3, h4, g1, g2, g3, g4, g5, g6]
def isCode : Jvm.Cond → Bool
  | .code _ _ _ _ => true
  | _ => false
theorem all_split {L : List Jvm.Cond} {P : Jvm.Cond → Bool} (h1 : L.all (fun c => isCode c || P c) = true) (h2 : ∀ c ∈ L.filter isCode, P c = true) : L.all P = true := by
  refine List.all_eq_true.mpr fun c hc => ?_
  have h := List.all_eq_true.mp h1 c hc
  rcases Bool.eq_false_or_eq_true (isCode c) with hi | hi
  · exact h2 c (List.mem_filter.mpr ⟨hc, hi⟩)
  · simpa [hi] using h
set_option maxRecDepth 65536 in
theorem w_c0 : (Jvm.Cond.code x code maxLocals ret).before args0 about1 = true := code_word (m := ⟨1, 5⟩) (meth := k1m5) (c := k1c5) (by decide +kernel) rfl rfl rfl (by decide +kernel)
set_option maxRecDepth 65536 in
theorem w_c1 : (Jvm.Cond.code ({ cls := "BlockBufferCache", name := "<init>", desc := "(III)V" } : Jvm.MethodName) prog_1_method_1_code (5 : Nat) (Option.none : Option Jvm.ClassFile.FieldType)).before args0 about1 = true := code_word (m := ⟨2, 0⟩) (meth := k2m0) (c := k2c0) (by decide +kernel) rfl rfl rfl (by decide +kernel)
set_option maxRecDepth 65536 in
theorem w_c2 : (Jvm.Cond.code ({ cls := "java/lang/Object", name := "<init>", desc := "()V" } : Jvm.MethodName) object_method_1_code (1 : Nat) (Option.none : Option Jvm.ClassFile.FieldType)).before args0 about1 = true := code_word (m := ⟨0, 0⟩) (meth := k0m0) (c := k0c0) (by decide +kernel) rfl rfl rfl (by decide +kernel)
set_option maxRecDepth 65536 in
theorem w_c3 : (Jvm.Cond.code ({ cls := "BlockBufferCache", name := "clamp", desc := "(III)I" } : Jvm.MethodName) prog_1_method_18_code (4 : Nat) (Option.some Jvm.ClassFile.FieldType.int)).before args0 about1 = true := code_word (m := ⟨2, 14⟩) (meth := k2m14) (c := k2c14) (by decide +kernel) rfl rfl rfl (by decide +kernel)
set_option maxRecDepth 65536 in
theorem w_c4 : (Jvm.Cond.code ({ cls := "BlockBufferCacheL6", name := "pick", desc := "(JJJJI)J" } : Jvm.MethodName) method_4_code (9 : Nat) (Option.some Jvm.ClassFile.FieldType.long)).before args0 about1 = true := code_word (m := ⟨1, 3⟩) (meth := k1m3) (c := k1c3) (by decide +kernel) rfl rfl rfl (by decide +kernel)
set_option maxRecDepth 65536 in
theorem w_c5 : (Jvm.Cond.code ({ cls := "BlockBufferCache", name := "fill", desc := "(III)I" } : Jvm.MethodName) prog_1_method_7_code (7 : Nat) (Option.some Jvm.ClassFile.FieldType.int)).before args0 about1 = true := code_word (m := ⟨2, 3⟩) (meth := k2m3) (c := k2c3) (by decide +kernel) rfl rfl rfl (by decide +kernel)
set_option maxRecDepth 65536 in
theorem w_c6 : (Jvm.Cond.code ({ cls := "BlockBufferCache", name := "badProc", desc := "(I)Z" } : Jvm.MethodName) prog_1_method_19_code (2 : Nat) (Option.some Jvm.ClassFile.FieldType.boolean)).before args0 about1 = true := code_word (m := ⟨2, 15⟩) (meth := k2m15) (c := k2c15) (by decide +kernel) rfl rfl rfl (by decide +kernel)
set_option maxRecDepth 65536 in
theorem w_c7 : (Jvm.Cond.code ({ cls := "BlockBufferCache", name := "badBlock", desc := "(I)Z" } : Jvm.MethodName) prog_1_method_20_code (2 : Nat) (Option.some Jvm.ClassFile.FieldType.boolean)).before args0 about1 = true := code_word (m := ⟨2, 16⟩) (meth := k2m16) (c := k2c16) (by decide +kernel) rfl rfl rfl (by decide +kernel)
set_option maxRecDepth 65536 in
theorem w_c8 : (Jvm.Cond.code ({ cls := "BlockBufferCache", name := "getBlock", desc := "(IIZ)I" } : Jvm.MethodName) prog_1_method_32_code (5 : Nat) (Option.some Jvm.ClassFile.FieldType.int)).before args0 about1 = true := code_word (m := ⟨2, 28⟩) (meth := k2m28) (c := k2c28) (by decide +kernel) rfl rfl rfl (by decide +kernel)
set_option maxRecDepth 65536 in
theorem w_c9 : (Jvm.Cond.code ({ cls := "BlockBufferCache", name := "findBuf", desc := "(I)I" } : Jvm.MethodName) prog_1_method_31_code (3 : Nat) (Option.some Jvm.ClassFile.FieldType.int)).before args0 about1 = true := code_word (m := ⟨2, 27⟩) (meth := k2m27) (c := k2c27) (by decide +kernel) rfl rfl rfl (by decide +kernel)
set_option maxRecDepth 65536 in
theorem w_c10 : (Jvm.Cond.code ({ cls := "BlockBufferCache", name := "allocate", desc := "()I" } : Jvm.MethodName) prog_1_method_33_code (4 : Nat) (Option.some Jvm.ClassFile.FieldType.int)).before args0 about1 = true := code_word (m := ⟨2, 29⟩) (meth := k2m29) (c := k2c29) (by decide +kernel) rfl rfl rfl (by decide +kernel)
set_option maxRecDepth 65536 in
theorem w_c11 : (Jvm.Cond.code ({ cls := "BlockBufferCache", name := "lruFree", desc := "()I" } : Jvm.MethodName) prog_1_method_34_code (3 : Nat) (Option.some Jvm.ClassFile.FieldType.int)).before args0 about1 = true := code_word (m := ⟨2, 30⟩) (meth := k2m30) (c := k2c30) (by decide +kernel) rfl rfl rfl (by decide +kernel)
set_option maxRecDepth 65536 in
theorem w_c12 : (Jvm.Cond.code ({ cls := "BlockBufferCache", name := "touch", desc := "(I)V" } : Jvm.MethodName) prog_1_method_30_code (2 : Nat) (Option.none : Option Jvm.ClassFile.FieldType)).before args0 about1 = true := code_word (m := ⟨2, 26⟩) (meth := k2m26) (c := k2c26) (by decide +kernel) rfl rfl rfl (by decide +kernel)
set_option maxRecDepth 65536 in
theorem w_c13 : (Jvm.Cond.code ({ cls := "BlockBufferCache", name := "storeWord", desc := "(IIII)V" } : Jvm.MethodName) prog_1_method_25_code (5 : Nat) (Option.none : Option Jvm.ClassFile.FieldType)).before args0 about1 = true := code_word (m := ⟨2, 21⟩) (meth := k2m21) (c := k2c21) (by decide +kernel) rfl rfl rfl (by decide +kernel)
set_option maxRecDepth 65536 in
theorem w_c14 : (Jvm.Cond.code ({ cls := "BlockBufferCache", name := "goodBuf", desc := "(I)Z" } : Jvm.MethodName) prog_1_method_22_code (2 : Nat) (Option.some Jvm.ClassFile.FieldType.boolean)).before args0 about1 = true := code_word (m := ⟨2, 18⟩) (meth := k2m18) (c := k2c18) (by decide +kernel) rfl rfl rfl (by decide +kernel)
set_option maxRecDepth 65536 in
theorem w_c15 : (Jvm.Cond.code ({ cls := "BlockBufferCache", name := "markFull", desc := "(I)V" } : Jvm.MethodName) prog_1_method_28_code (2 : Nat) (Option.none : Option Jvm.ClassFile.FieldType)).before args0 about1 = true := code_word (m := ⟨2, 24⟩) (meth := k2m24) (c := k2c24) (by decide +kernel) rfl rfl rfl (by decide +kernel)
set_option maxRecDepth 65536 in
theorem w_c16 : (Jvm.Cond.code ({ cls := "BlockBufferCache", name := "release", desc := "(I)V" } : Jvm.MethodName) prog_1_method_29_code (2 : Nat) (Option.none : Option Jvm.ClassFile.FieldType)).before args0 about1 = true := code_word (m := ⟨2, 25⟩) (meth := k2m25) (c := k2c25) (by decide +kernel) rfl rfl rfl (by decide +kernel)
set_option maxRecDepth 65536 in
theorem w_c17 : (Jvm.Cond.code ({ cls := "BlockBufferCacheL6", name := "agree", desc := "(LBlockBufferCache;JJJJI)Z" } : Jvm.MethodName) method_5_code (17 : Nat) (Option.some Jvm.ClassFile.FieldType.boolean)).before args0 about1 = true := code_word (m := ⟨1, 4⟩) (meth := k1m4) (c := k1c4) (by decide +kernel) rfl rfl rfl (by decide +kernel)
set_option maxRecDepth 65536 in
theorem w_c18 : (Jvm.Cond.code ({ cls := "BlockBufferCache", name := "blockSum", desc := "(I)I" } : Jvm.MethodName) prog_1_method_14_code (4 : Nat) (Option.some Jvm.ClassFile.FieldType.int)).before args0 about1 = true := code_word (m := ⟨2, 10⟩) (meth := k2m10) (c := k2c10) (by decide +kernel) rfl rfl rfl (by decide +kernel)
set_option maxRecDepth 65536 in
theorem w_c19 : (Jvm.Cond.code ({ cls := "BlockBufferCache", name := "peekWord", desc := "(II)I" } : Jvm.MethodName) prog_1_method_26_code (4 : Nat) (Option.some Jvm.ClassFile.FieldType.int)).before args0 about1 = true := code_word (m := ⟨2, 22⟩) (meth := k2m22) (c := k2c22) (by decide +kernel) rfl rfl rfl (by decide +kernel)
set_option maxRecDepth 65536 in
theorem w_c20 : (Jvm.Cond.code ({ cls := "BlockBufferCacheL6", name := "get", desc := "(JI)I" } : Jvm.MethodName) method_2_code (3 : Nat) (Option.some Jvm.ClassFile.FieldType.int)).before args0 about1 = true := code_word (m := ⟨1, 1⟩) (meth := k1m1) (c := k1c1) (by decide +kernel) rfl rfl rfl (by decide +kernel)
set_option maxRecDepth 65536 in
theorem w_c21 : (Jvm.Cond.code ({ cls := "BlockBufferCache", name := "diskWord", desc := "(II)I" } : Jvm.MethodName) prog_1_method_12_code (3 : Nat) (Option.some Jvm.ClassFile.FieldType.int)).before args0 about1 = true := code_word (m := ⟨2, 8⟩) (meth := k2m8) (c := k2c8) (by decide +kernel) rfl rfl rfl (by decide +kernel)
set_option maxRecDepth 65536 in
theorem w_c22 : (Jvm.Cond.code ({ cls := "BlockBufferCache", name := "badWord", desc := "(I)Z" } : Jvm.MethodName) prog_1_method_21_code (2 : Nat) (Option.some Jvm.ClassFile.FieldType.boolean)).before args0 about1 = true := code_word (m := ⟨2, 17⟩) (meth := k2m17) (c := k2c17) (by decide +kernel) rfl rfl rfl (by decide +kernel)
set_option maxRecDepth 65536 in
theorem w_c23 : (Jvm.Cond.code ({ cls := "BlockBufferCache", name := "unsyncedCount", desc := "()I" } : Jvm.MethodName) prog_1_method_13_code (3 : Nat) (Option.some Jvm.ClassFile.FieldType.int)).before args0 about1 = true := code_word (m := ⟨2, 9⟩) (meth := k2m9) (c := k2c9) (by decide +kernel) rfl rfl rfl (by decide +kernel)
set_option maxRecDepth 65536 in
theorem w_c24 : (Jvm.Cond.code ({ cls := "BlockBufferCache", name := "readCount", desc := "(I)I" } : Jvm.MethodName) prog_1_method_16_code (2 : Nat) (Option.some Jvm.ClassFile.FieldType.int)).before args0 about1 = true := code_word (m := ⟨2, 12⟩) (meth := k2m12) (c := k2c12) (by decide +kernel) rfl rfl rfl (by decide +kernel)
set_option maxRecDepth 65536 in
theorem w_c25 : (Jvm.Cond.code ({ cls := "BlockBufferCache", name := "writeCount", desc := "(I)I" } : Jvm.MethodName) prog_1_method_17_code (2 : Nat) (Option.some Jvm.ClassFile.FieldType.int)).before args0 about1 = true := code_word (m := ⟨2, 13⟩) (meth := k2m13) (c := k2c13) (by decide +kernel) rfl rfl rfl (by decide +kernel)
set_option maxRecDepth 65536 in
theorem w_c26 : (Jvm.Cond.code ({ cls := "BlockBufferCache", name := "lastRead", desc := "(I)I" } : Jvm.MethodName) prog_1_method_15_code (2 : Nat) (Option.some Jvm.ClassFile.FieldType.int)).before args0 about1 = true := code_word (m := ⟨2, 11⟩) (meth := k2m11) (c := k2c11) (by decide +kernel) rfl rfl rfl (by decide +kernel)
set_option maxRecDepth 65536 in
theorem w_c27 : (Jvm.Cond.code ({ cls := "BlockBufferCache", name := "write", desc := "(IIII)I" } : Jvm.MethodName) prog_1_method_6_code (6 : Nat) (Option.some Jvm.ClassFile.FieldType.int)).before args0 about1 = true := code_word (m := ⟨2, 2⟩) (meth := k2m2) (c := k2c2) (by decide +kernel) rfl rfl rfl (by decide +kernel)
set_option maxRecDepth 65536 in
theorem w_c28 : (Jvm.Cond.code ({ cls := "BlockBufferCache", name := "enqueue", desc := "(IIZ)Z" } : Jvm.MethodName) prog_1_method_36_code (4 : Nat) (Option.some Jvm.ClassFile.FieldType.boolean)).before args0 about1 = true := code_word (m := ⟨2, 32⟩) (meth := k2m32) (c := k2c32) (by decide +kernel) rfl rfl rfl (by decide +kernel)
set_option maxRecDepth 65536 in
theorem w_c29 : (Jvm.Cond.code ({ cls := "BlockBufferCache", name := "waitBuffer", desc := "(II)V" } : Jvm.MethodName) prog_1_method_35_code (5 : Nat) (Option.none : Option Jvm.ClassFile.FieldType)).before args0 about1 = true := code_word (m := ⟨2, 31⟩) (meth := k2m31) (c := k2c31) (by decide +kernel) rfl rfl rfl (by decide +kernel)
set_option maxRecDepth 65536 in
theorem w_c30 : (Jvm.Cond.code ({ cls := "BlockBufferCache", name := "interrupt", desc := "()Z" } : Jvm.MethodName) prog_1_method_40_code (5 : Nat) (Option.some Jvm.ClassFile.FieldType.boolean)).before args0 about1 = true := code_word (m := ⟨2, 36⟩) (meth := k2m36) (c := k2c36) (by decide +kernel) rfl rfl rfl (by decide +kernel)
set_option maxRecDepth 65536 in
theorem w_c31 : (Jvm.Cond.code ({ cls := "BlockBufferCache", name := "pickNext", desc := "()I" } : Jvm.MethodName) prog_1_method_38_code (5 : Nat) (Option.some Jvm.ClassFile.FieldType.int)).before args0 about1 = true := code_word (m := ⟨2, 34⟩) (meth := k2m34) (c := k2c34) (by decide +kernel) rfl rfl rfl (by decide +kernel)
set_option maxRecDepth 65536 in
theorem w_c32 : (Jvm.Cond.code ({ cls := "BlockBufferCache", name := "removeAt", desc := "(I)V" } : Jvm.MethodName) prog_1_method_39_code (3 : Nat) (Option.none : Option Jvm.ClassFile.FieldType)).before args0 about1 = true := code_word (m := ⟨2, 35⟩) (meth := k2m35) (c := k2c35) (by decide +kernel) rfl rfl rfl (by decide +kernel)
set_option maxRecDepth 65536 in
theorem w_c33 : (Jvm.Cond.code ({ cls := "BlockBufferCache", name := "transfer", desc := "(IIZ)V" } : Jvm.MethodName) prog_1_method_41_code (7 : Nat) (Option.none : Option Jvm.ClassFile.FieldType)).before args0 about1 = true := code_word (m := ⟨2, 37⟩) (meth := k2m37) (c := k2c37) (by decide +kernel) rfl rfl rfl (by decide +kernel)
set_option maxRecDepth 65536 in
theorem w_c34 : (Jvm.Cond.code ({ cls := "BlockBufferCache", name := "wake", desc := "(I)V" } : Jvm.MethodName) prog_1_method_42_code (3 : Nat) (Option.none : Option Jvm.ClassFile.FieldType)).before args0 about1 = true := code_word (m := ⟨2, 38⟩) (meth := k2m38) (c := k2c38) (by decide +kernel) rfl rfl rfl (by decide +kernel)
set_option maxRecDepth 65536 in
theorem w_c35 : (Jvm.Cond.code ({ cls := "BlockBufferCache", name := "markDirty", desc := "(I)V" } : Jvm.MethodName) prog_1_method_27_code (2 : Nat) (Option.none : Option Jvm.ClassFile.FieldType)).before args0 about1 = true := code_word (m := ⟨2, 23⟩) (meth := k2m23) (c := k2c23) (by decide +kernel) rfl rfl rfl (by decide +kernel)
set_option maxRecDepth 65536 in
theorem w_c36 : (Jvm.Cond.code ({ cls := "BlockBufferCacheL6", name := "put", desc := "(JII)J" } : Jvm.MethodName) method_3_code (4 : Nat) (Option.some Jvm.ClassFile.FieldType.long)).before args0 about1 = true := code_word (m := ⟨1, 2⟩) (meth := k1m2) (c := k1c2) (by decide +kernel) rfl rfl rfl (by decide +kernel)
set_option maxRecDepth 65536 in
theorem w_c37 : (Jvm.Cond.code ({ cls := "BlockBufferCache", name := "read", desc := "(III)I" } : Jvm.MethodName) prog_1_method_5_code (6 : Nat) (Option.some Jvm.ClassFile.FieldType.int)).before args0 about1 = true := code_word (m := ⟨2, 1⟩) (meth := k2m1) (c := k2c1) (by decide +kernel) rfl rfl rfl (by decide +kernel)
set_option maxRecDepth 65536 in
theorem w_c38 : (Jvm.Cond.code ({ cls := "BlockBufferCache", name := "loadWord", desc := "(III)I" } : Jvm.MethodName) prog_1_method_24_code (4 : Nat) (Option.some Jvm.ClassFile.FieldType.int)).before args0 about1 = true := code_word (m := ⟨2, 20⟩) (meth := k2m20) (c := k2c20) (by decide +kernel) rfl rfl rfl (by decide +kernel)
set_option maxRecDepth 65536 in
theorem w_c39 : (Jvm.Cond.code ({ cls := "BlockBufferCache", name := "step", desc := "(I)V" } : Jvm.MethodName) prog_1_method_9_code (4 : Nat) (Option.none : Option Jvm.ClassFile.FieldType)).before args0 about1 = true := code_word (m := ⟨2, 5⟩) (meth := k2m5) (c := k2c5) (by decide +kernel) rfl rfl rfl (by decide +kernel)
set_option maxRecDepth 65536 in
theorem w_c40 : (Jvm.Cond.code ({ cls := "BlockBufferCache", name := "syncBlock", desc := "(I)I" } : Jvm.MethodName) prog_1_method_10_code (3 : Nat) (Option.some Jvm.ClassFile.FieldType.int)).before args0 about1 = true := code_word (m := ⟨2, 6⟩) (meth := k2m6) (c := k2c6) (by decide +kernel) rfl rfl rfl (by decide +kernel)
set_option maxRecDepth 65536 in
theorem w_c41 : (Jvm.Cond.code ({ cls := "BlockBufferCache", name := "copyBlock", desc := "(III)I" } : Jvm.MethodName) prog_1_method_8_code (5 : Nat) (Option.some Jvm.ClassFile.FieldType.int)).before args0 about1 = true := code_word (m := ⟨2, 4⟩) (meth := k2m4) (c := k2c4) (by decide +kernel) rfl rfl rfl (by decide +kernel)
set_option maxRecDepth 65536 in
theorem w_c42 : (Jvm.Cond.code ({ cls := "BlockBufferCache", name := "copyBetween", desc := "(IIII)V" } : Jvm.MethodName) prog_1_method_23_code (10 : Nat) (Option.none : Option Jvm.ClassFile.FieldType)).before args0 about1 = true := code_word (m := ⟨2, 19⟩) (meth := k2m19) (c := k2c19) (by decide +kernel) rfl rfl rfl (by decide +kernel)
set_option maxRecDepth 65536 in
theorem w_c43 : (Jvm.Cond.code ({ cls := "BlockBufferCache", name := "sync", desc := "()V" } : Jvm.MethodName) prog_1_method_11_code (3 : Nat) (Option.none : Option Jvm.ClassFile.FieldType)).before args0 about1 = true := code_word (m := ⟨2, 7⟩) (meth := k2m7) (c := k2c7) (by decide +kernel) rfl rfl rfl (by decide +kernel)
set_option maxRecDepth 65536 in
theorem w_c44 : (Jvm.Cond.code ({ cls := "BlockBufferCache", name := "drain", desc := "()V" } : Jvm.MethodName) prog_1_method_37_code (2 : Nat) (Option.none : Option Jvm.ClassFile.FieldType)).before args0 about1 = true := code_word (m := ⟨2, 33⟩) (meth := k2m33) (c := k2c33) (by decide +kernel) rfl rfl rfl (by decide +kernel)
def codes1 : List Jvm.Cond := [Jvm.Cond.code x code maxLocals ret, Jvm.Cond.code ({ cls := "BlockBufferCache", name := "<init>", desc := "(III)V" } : Jvm.MethodName) prog_1_method_1_code (5 : Nat) (Option.none : Option Jvm.ClassFile.FieldType), Jvm.Cond.code ({ cls := "java/lang/Object", name := "<init>", desc := "()V" } : Jvm.MethodName) object_method_1_code (1 : Nat) (Option.none : Option Jvm.ClassFile.FieldType), Jvm.Cond.code ({ cls := "BlockBufferCache", name := "clamp", desc := "(III)I" } : Jvm.MethodName) prog_1_method_18_code (4 : Nat) (Option.some Jvm.ClassFile.FieldType.int), Jvm.Cond.code ({ cls := "BlockBufferCacheL6", name := "pick", desc := "(JJJJI)J" } : Jvm.MethodName) method_4_code (9 : Nat) (Option.some Jvm.ClassFile.FieldType.long), Jvm.Cond.code ({ cls := "BlockBufferCache", name := "fill", desc := "(III)I" } : Jvm.MethodName) prog_1_method_7_code (7 : Nat) (Option.some Jvm.ClassFile.FieldType.int), Jvm.Cond.code ({ cls := "BlockBufferCache", name := "badProc", desc := "(I)Z" } : Jvm.MethodName) prog_1_method_19_code (2 : Nat) (Option.some Jvm.ClassFile.FieldType.boolean), Jvm.Cond.code ({ cls := "BlockBufferCache", name := "badBlock", desc := "(I)Z" } : Jvm.MethodName) prog_1_method_20_code (2 : Nat) (Option.some Jvm.ClassFile.FieldType.boolean), Jvm.Cond.code ({ cls := "BlockBufferCache", name := "getBlock", desc := "(IIZ)I" } : Jvm.MethodName) prog_1_method_32_code (5 : Nat) (Option.some Jvm.ClassFile.FieldType.int), Jvm.Cond.code ({ cls := "BlockBufferCache", name := "findBuf", desc := "(I)I" } : Jvm.MethodName) prog_1_method_31_code (3 : Nat) (Option.some Jvm.ClassFile.FieldType.int), Jvm.Cond.code ({ cls := "BlockBufferCache", name := "allocate", desc := "()I" } : Jvm.MethodName) prog_1_method_33_code (4 : Nat) (Option.some Jvm.ClassFile.FieldType.int), Jvm.Cond.code ({ cls := "BlockBufferCache", name := "lruFree", desc := "()I" } : Jvm.MethodName) prog_1_method_34_code (3 : Nat) (Option.some Jvm.ClassFile.FieldType.int), Jvm.Cond.code ({ cls := "BlockBufferCache", name := "touch", desc := "(I)V" } : Jvm.MethodName) prog_1_method_30_code (2 : Nat) (Option.none : Option Jvm.ClassFile.FieldType), Jvm.Cond.code ({ cls := "BlockBufferCache", name := "storeWord", desc := "(IIII)V" } : Jvm.MethodName) prog_1_method_25_code (5 : Nat) (Option.none : Option Jvm.ClassFile.FieldType), Jvm.Cond.code ({ cls := "BlockBufferCache", name := "goodBuf", desc := "(I)Z" } : Jvm.MethodName) prog_1_method_22_code (2 : Nat) (Option.some Jvm.ClassFile.FieldType.boolean), Jvm.Cond.code ({ cls := "BlockBufferCache", name := "markFull", desc := "(I)V" } : Jvm.MethodName) prog_1_method_28_code (2 : Nat) (Option.none : Option Jvm.ClassFile.FieldType), Jvm.Cond.code ({ cls := "BlockBufferCache", name := "release", desc := "(I)V" } : Jvm.MethodName) prog_1_method_29_code (2 : Nat) (Option.none : Option Jvm.ClassFile.FieldType), Jvm.Cond.code ({ cls := "BlockBufferCacheL6", name := "agree", desc := "(LBlockBufferCache;JJJJI)Z" } : Jvm.MethodName) method_5_code (17 : Nat) (Option.some Jvm.ClassFile.FieldType.boolean), Jvm.Cond.code ({ cls := "BlockBufferCache", name := "blockSum", desc := "(I)I" } : Jvm.MethodName) prog_1_method_14_code (4 : Nat) (Option.some Jvm.ClassFile.FieldType.int), Jvm.Cond.code ({ cls := "BlockBufferCache", name := "peekWord", desc := "(II)I" } : Jvm.MethodName) prog_1_method_26_code (4 : Nat) (Option.some Jvm.ClassFile.FieldType.int), Jvm.Cond.code ({ cls := "BlockBufferCacheL6", name := "get", desc := "(JI)I" } : Jvm.MethodName) method_2_code (3 : Nat) (Option.some Jvm.ClassFile.FieldType.int), Jvm.Cond.code ({ cls := "BlockBufferCache", name := "diskWord", desc := "(II)I" } : Jvm.MethodName) prog_1_method_12_code (3 : Nat) (Option.some Jvm.ClassFile.FieldType.int), Jvm.Cond.code ({ cls := "BlockBufferCache", name := "badWord", desc := "(I)Z" } : Jvm.MethodName) prog_1_method_21_code (2 : Nat) (Option.some Jvm.ClassFile.FieldType.boolean), Jvm.Cond.code ({ cls := "BlockBufferCache", name := "unsyncedCount", desc := "()I" } : Jvm.MethodName) prog_1_method_13_code (3 : Nat) (Option.some Jvm.ClassFile.FieldType.int), Jvm.Cond.code ({ cls := "BlockBufferCache", name := "readCount", desc := "(I)I" } : Jvm.MethodName) prog_1_method_16_code (2 : Nat) (Option.some Jvm.ClassFile.FieldType.int), Jvm.Cond.code ({ cls := "BlockBufferCache", name := "writeCount", desc := "(I)I" } : Jvm.MethodName) prog_1_method_17_code (2 : Nat) (Option.some Jvm.ClassFile.FieldType.int), Jvm.Cond.code ({ cls := "BlockBufferCache", name := "lastRead", desc := "(I)I" } : Jvm.MethodName) prog_1_method_15_code (2 : Nat) (Option.some Jvm.ClassFile.FieldType.int), Jvm.Cond.code ({ cls := "BlockBufferCache", name := "write", desc := "(IIII)I" } : Jvm.MethodName) prog_1_method_6_code (6 : Nat) (Option.some Jvm.ClassFile.FieldType.int), Jvm.Cond.code ({ cls := "BlockBufferCache", name := "enqueue", desc := "(IIZ)Z" } : Jvm.MethodName) prog_1_method_36_code (4 : Nat) (Option.some Jvm.ClassFile.FieldType.boolean), Jvm.Cond.code ({ cls := "BlockBufferCache", name := "waitBuffer", desc := "(II)V" } : Jvm.MethodName) prog_1_method_35_code (5 : Nat) (Option.none : Option Jvm.ClassFile.FieldType), Jvm.Cond.code ({ cls := "BlockBufferCache", name := "interrupt", desc := "()Z" } : Jvm.MethodName) prog_1_method_40_code (5 : Nat) (Option.some Jvm.ClassFile.FieldType.boolean), Jvm.Cond.code ({ cls := "BlockBufferCache", name := "pickNext", desc := "()I" } : Jvm.MethodName) prog_1_method_38_code (5 : Nat) (Option.some Jvm.ClassFile.FieldType.int), Jvm.Cond.code ({ cls := "BlockBufferCache", name := "removeAt", desc := "(I)V" } : Jvm.MethodName) prog_1_method_39_code (3 : Nat) (Option.none : Option Jvm.ClassFile.FieldType), Jvm.Cond.code ({ cls := "BlockBufferCache", name := "transfer", desc := "(IIZ)V" } : Jvm.MethodName) prog_1_method_41_code (7 : Nat) (Option.none : Option Jvm.ClassFile.FieldType), Jvm.Cond.code ({ cls := "BlockBufferCache", name := "wake", desc := "(I)V" } : Jvm.MethodName) prog_1_method_42_code (3 : Nat) (Option.none : Option Jvm.ClassFile.FieldType), Jvm.Cond.code ({ cls := "BlockBufferCache", name := "markDirty", desc := "(I)V" } : Jvm.MethodName) prog_1_method_27_code (2 : Nat) (Option.none : Option Jvm.ClassFile.FieldType), Jvm.Cond.code ({ cls := "BlockBufferCacheL6", name := "put", desc := "(JII)J" } : Jvm.MethodName) method_3_code (4 : Nat) (Option.some Jvm.ClassFile.FieldType.long), Jvm.Cond.code ({ cls := "BlockBufferCache", name := "read", desc := "(III)I" } : Jvm.MethodName) prog_1_method_5_code (6 : Nat) (Option.some Jvm.ClassFile.FieldType.int), Jvm.Cond.code ({ cls := "BlockBufferCache", name := "loadWord", desc := "(III)I" } : Jvm.MethodName) prog_1_method_24_code (4 : Nat) (Option.some Jvm.ClassFile.FieldType.int), Jvm.Cond.code ({ cls := "BlockBufferCache", name := "step", desc := "(I)V" } : Jvm.MethodName) prog_1_method_9_code (4 : Nat) (Option.none : Option Jvm.ClassFile.FieldType), Jvm.Cond.code ({ cls := "BlockBufferCache", name := "syncBlock", desc := "(I)I" } : Jvm.MethodName) prog_1_method_10_code (3 : Nat) (Option.some Jvm.ClassFile.FieldType.int), Jvm.Cond.code ({ cls := "BlockBufferCache", name := "copyBlock", desc := "(III)I" } : Jvm.MethodName) prog_1_method_8_code (5 : Nat) (Option.some Jvm.ClassFile.FieldType.int), Jvm.Cond.code ({ cls := "BlockBufferCache", name := "copyBetween", desc := "(IIII)V" } : Jvm.MethodName) prog_1_method_23_code (10 : Nat) (Option.none : Option Jvm.ClassFile.FieldType), Jvm.Cond.code ({ cls := "BlockBufferCache", name := "sync", desc := "()V" } : Jvm.MethodName) prog_1_method_11_code (3 : Nat) (Option.none : Option Jvm.ClassFile.FieldType), Jvm.Cond.code ({ cls := "BlockBufferCache", name := "drain", desc := "()V" } : Jvm.MethodName) prog_1_method_37_code (2 : Nat) (Option.none : Option Jvm.ClassFile.FieldType)]
set_option maxRecDepth 65536 in
theorem codes_eq : words1.filter isCode = codes1 := rfl
theorem w_codes : ∀ c ∈ words1.filter isCode, c.before args0 about1 = true := by
  rw [codes_eq]
  intro c hc
  simp only [codes1, List.mem_cons, List.not_mem_nil, or_false] at hc
  rcases hc with rfl | rfl | rfl | rfl | rfl | rfl | rfl | rfl | rfl | rfl | rfl | rfl | rfl | rfl | rfl | rfl | rfl | rfl | rfl | rfl | rfl | rfl | rfl | rfl | rfl | rfl | rfl | rfl | rfl | rfl | rfl | rfl | rfl | rfl | rfl | rfl | rfl | rfl | rfl | rfl | rfl | rfl | rfl | rfl | rfl
  · exact w_c0
  · exact w_c1
  · exact w_c2
  · exact w_c3
  · exact w_c4
  · exact w_c5
  · exact w_c6
  · exact w_c7
  · exact w_c8
  · exact w_c9
  · exact w_c10
  · exact w_c11
  · exact w_c12
  · exact w_c13
  · exact w_c14
  · exact w_c15
  · exact w_c16
  · exact w_c17
  · exact w_c18
  · exact w_c19
  · exact w_c20
  · exact w_c21
  · exact w_c22
  · exact w_c23
  · exact w_c24
  · exact w_c25
  · exact w_c26
  · exact w_c27
  · exact w_c28
  · exact w_c29
  · exact w_c30
  · exact w_c31
  · exact w_c32
  · exact w_c33
  · exact w_c34
  · exact w_c35
  · exact w_c36
  · exact w_c37
  · exact w_c38
  · exact w_c39
  · exact w_c40
  · exact w_c41
  · exact w_c42
  · exact w_c43
  · exact w_c44
set_option maxRecDepth 65536 in
theorem w_t1 : (words1.take 24).all (fun c => isCode c || c.before args0 about1) = true := by decide +kernel
set_option maxRecDepth 65536 in
theorem w_t2 : ((words1.drop 24).take 24).all (fun c => isCode c || c.before args0 about1) = true := by decide +kernel
set_option maxRecDepth 65536 in
theorem w_t3 : (((words1.drop 24).drop 24).take 24).all (fun c => isCode c || c.before args0 about1) = true := by decide +kernel
set_option maxRecDepth 65536 in
theorem w_t4 : ((((words1.drop 24).drop 24).drop 24).take 24).all (fun c => isCode c || c.before args0 about1) = true := by decide +kernel
set_option maxRecDepth 65536 in
theorem w_t5 : (((((words1.drop 24).drop 24).drop 24).drop 24).take 24).all (fun c => isCode c || c.before args0 about1) = true := by decide +kernel
set_option maxRecDepth 65536 in
theorem w_t6 : ((((((words1.drop 24).drop 24).drop 24).drop 24).drop 24).take 24).all (fun c => isCode c || c.before args0 about1) = true := by decide +kernel
set_option maxRecDepth 65536 in
theorem w_t7 : (((((((words1.drop 24).drop 24).drop 24).drop 24).drop 24).drop 24).take 24).all (fun c => isCode c || c.before args0 about1) = true := by decide +kernel
set_option maxRecDepth 65536 in
theorem w_t8 : ((((((((words1.drop 24).drop 24).drop 24).drop 24).drop 24).drop 24).drop 24).take 24).all (fun c => isCode c || c.before args0 about1) = true := by decide +kernel
set_option maxRecDepth 65536 in
theorem w_t9 : (((((((((words1.drop 24).drop 24).drop 24).drop 24).drop 24).drop 24).drop 24).drop 24).take 24).all (fun c => isCode c || c.before args0 about1) = true := by decide +kernel
set_option maxRecDepth 65536 in
theorem w_t10 : (((((((((words1.drop 24).drop 24).drop 24).drop 24).drop 24).drop 24).drop 24).drop 24).drop 24).all (fun c => isCode c || c.before args0 about1) = true := by decide +kernel
theorem w_tables : (allAtoms (Jvm.Cond.code x code maxLocals ret :: tables_1)).before args0 about1 = true := by
  rw [allAtoms_all]
  show words1.all (fun c => c.before args0 about1) = true
  refine all_split ?_ w_codes
  rw [← List.take_append_drop 24 words1, List.all_append, w_t1, ← List.take_append_drop 24 (words1.drop 24), List.all_append, w_t2, ← List.take_append_drop 24 ((words1.drop 24).drop 24), List.all_append, w_t3, ← List.take_append_drop 24 (((words1.drop 24).drop 24).drop 24), List.all_append, w_t4, ← List.take_append_drop 24 ((((words1.drop 24).drop 24).drop 24).drop 24), List.all_append, w_t5, ← List.take_append_drop 24 (((((words1.drop 24).drop 24).drop 24).drop 24).drop 24), List.all_append, w_t6, ← List.take_append_drop 24 ((((((words1.drop 24).drop 24).drop 24).drop 24).drop 24).drop 24), List.all_append, w_t7, ← List.take_append_drop 24 (((((((words1.drop 24).drop 24).drop 24).drop 24).drop 24).drop 24).drop 24), List.all_append, w_t8, ← List.take_append_drop 24 ((((((((words1.drop 24).drop 24).drop 24).drop 24).drop 24).drop 24).drop 24).drop 24), List.all_append, w_t9, w_t10]
  rfl
set_option maxRecDepth 65536 in
theorem w_rest : rest_1_c.before args0 about1 = true := by decide +kernel
set_option maxRecDepth 65536 in
theorem w_case : (Jvm.Cond.and given_1 narrow_1).before args0 about1 = true := by decide +kernel
theorem w_applies : (headSpec (Jvm.Cond.code x code maxLocals ret :: tables_1) room_1).applies x e0.platform about1 = true :=
  (Spec.applies_iff w_frames).mpr ⟨w_running, w_runnable, w_alone, w_named, w_hears, w_ripe, w_room, w_tables⟩
theorem atStart : AtStart classFile x code maxLocals ret World_1 tables_1 room_1 Calls_1 rest_1 Pre_1 launch0 p0 e0 about1 theMethod args0 below0 :=
  ⟨lists_1, trivial, launch0.admits_env _ _ _, launch0.least_env, fairChoices_fair.cas, fairChoices_fair.clock, w_frames, w_args, w_heap, w_applies, trivial, w_rest, w_case⟩
end start1
theorem witness_1 : WitnessClaimed_1 := ⟨start1.p0, start1.e0, start1.about1, start1.theMethod, start1.args0, start1.below0, start1.atStart⟩
end Jvm.Pilot.@@N@@
